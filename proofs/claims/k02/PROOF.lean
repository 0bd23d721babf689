import PyProof.Rows.All
import HandS.List
import Wide.All
import OpenK.AllK
import Wide.FinOn
import HandS.ForMost
import HandS.SortKw
import HandS.ExcIs
import HandS.CallSlots
import HandS.ForExc
import HandS.Walk
import HandS.Zip
import HandS.IsInst
import HandS.Deep
import HandS.TupMul
import HandS.TupAny
import HandS.TupLe
import HandS.Wide
import HandS.ExcInit
import HandS.ExcValue
import KE.SortData
import KE.DataFind
import KE.KDictCopyH
import KE.DataMinMax
import KE.SortKeyHeap
import KE.KDictKeyed
import KE.KDictWalk
import HandS.TupSets
import KE.GoesEnum
import PyProof.ExcBaseAll.ValueError
import PySem.Challenge.RW_morsematch_k02_whole_complexes
set_option Elab.async false
section
set_option Elab.async false
set_option linter.all false
set_option maxRecDepth 100000
/-! RD: data by value, a core language over slots, and its evaluator. Plain Lean, no heap. -/
namespace R
open PySem

/-- data by value. cell n: the n-th shared thing of the world; fn f: the f-th def as a value; exc c p: an exception of the c-th class -/
inductive D where
  | non | bl (b : Bool) | int (i : Int) | str (s : Str)
  | tup (xs : List D) | lst (xs : List D) | dic (ks vs : List D)
  | fn (f : Nat) | cell (n : Nat) | exc (c : Nat) (p : List D) | obj (c : Nat) (ns : List Str) (vs : List D)
  deriving Inhabited

/-! ### plain data: its form, ==, < -/
/-- None, boolsD, intsD, texts, tuples and lists of these, to depth n -/
def sh : Nat → D → Bool
  | _, .non | _, .bl _ | _, .int _ => true
  | _, .str s => PyData.strOk s
  | n + 1, .tup xs | n + 1, .lst xs => xs.all (sh n)
  | _, _ => false
/-- .. without lists: a key -/
def ky : Nat → D → Bool
  | _, .non | _, .bl _ | _, .int _ | _, .str _ => true
  | n + 1, .tup xs => xs.all (ky n)
  | _, _ => false
/-- nothing in it can be changed -/
def imm : Nat → D → Bool
  | _, .non | _, .bl _ | _, .int _ | _, .str _ | _, .fn _ | _, .cell _ => true
  | n + 1, .tup xs => xs.all (imm n)
  | _, _ => false
mutual
def eqD : D → D → Bool
  | .non, .non => true
  | .bl a, .bl b => a == b
  | .bl a, .int j => (if a then 1 else 0) == j
  | .int i, .bl b => i == (if b then 1 else 0)
  | .int i, .int j => i == j
  | .str x, .str y => x == y
  | .lst xs, .lst ys => eqDs xs ys
  | .tup xs, .tup ys => eqDs xs ys
  | _, _ => false
def eqDs : List D → List D → Bool
  | [], [] => true
  | x :: xs, y :: ys => eqD x y && eqDs xs ys
  | _, _ => false
end
mutual
/-- can be compared place by place -/
def alk : D → D → Bool
  | .non, .non => true
  | .bl _, .bl _ => true
  | .int _, .int _ => true
  | .str _, .str _ => true
  | .lst xs, .lst ys => alks xs ys
  | .tup xs, .tup ys => alks xs ys
  | _, _ => false
def alks : List D → List D → Bool
  | x :: xs, y :: ys => alk x y && alks xs ys
  | _, _ => true
end
mutual
/-- x < y, of data that can be compared -/
def ltD : D → D → Bool
  | .bl a, .bl b => !a && b
  | .int i, .int j => decide (i < j)
  | .str x, .str y => decide (x.cps.toList < y.cps.toList)
  | .lst xs, .lst ys => ltDs xs ys
  | .tup xs, .tup ys => ltDs xs ys
  | _, _ => false
def ltDs : List D → List D → Bool
  | [], [] => false
  | [], _ :: _ => true
  | _ :: _, [] => false
  | x :: xs, y :: ys => if eqD x y then ltDs xs ys else ltD x y
end

def szOk (n : Nat) : Bool := decide (n ≤ 16777216)
def isTupC : D → Bool
  | .tup (_ :: _) => true
  | _ => false
/-- a key of a dict that is looked up: a tuple -/
def isKey : D → Bool
  | .tup xs => ky 8 (.tup xs)
  | _ => false
def isPlainC : D → Bool
  | .non | .tup _ => false
  | _ => true
/-- what can be sorted (kz: the keys) -/
def sortable (kz : List D) : Bool := kz.all (sh 8) && kz.all (fun a => kz.all (alk a)) && (kz.all isTupC || kz.all isPlainC)
def leK (a b : D × D) : Bool := !ltD b.1 a.1
/-- xs sorted by its keys -/
def sortBy (kz xs : List D) : Option (List D) := if sortable kz && szOk xs.length then some (((kz.zip xs).mergeSort leK).map (·.2)) else none

/-! ### results -/
abbrev Wd := List D
/-- val: what nothing will change; own: a new list or dict, nobody else's; slot: the list or dict of a slot; cel: of a cell -/
inductive Kd where | val | own | slot (i : Nat) | cel
  deriving DecidableEq
inductive Res (α : Type) where
  | ok (a : α) (w : Wd)
  | exc (c : Nat) (p : List D) (w : Wd)
abbrev M (α : Type) := Option (Res α)
def bnd {α β : Type} (x : M α) (f : α → Wd → M β) : M β :=
  match x with
  | some (.ok a w) => f a w
  | some (.exc c p w) => some (.exc c p w)
  | none => none
/-- .. where what comes is no shared thing's content -/
def bnd1 {β : Type} (x : M (Kd × D)) (f : Kd × D → Wd → M β) : M β := bnd x fun r w => match r with
  | (.cel, _) => none
  | r => f r w
def ret {α : Type} (a : α) (w : Wd) : M α := some (.ok a w)
def lift {α : Type} (x : Option α) (w : Wd) : M α := match x with | some a => some (.ok a w) | none => none

inductive Sl where
  | no | val (d : D) | own (d : D)
  deriving Inhabited
abbrev En := List Sl

/-! ### operators by values -/
inductive BOp where | add | sub | mul | fdiv | mod | pow
inductive COp where | eq | ne | lt | le | gt | ge | isin | notin | is | isnot
def small (i : Int) : Bool := decide (-(2 ^ 64) < i) && decide (i < 2 ^ 64)
/-- at most a million bits -/
def wide (i : Int) : Bool := decide (i.natAbs.log2 < 1000000)
def binD : BOp → D → D → Option (Kd × D)
  | .add, .int i, .int j => some (.val, .int (i + j))
  | .add, .str x, .str y => if szOk (x.length + y.length) then some (.val, .str (x ++ y)) else none
  | .add, .lst xs, .lst ys => if szOk (xs.length + ys.length) then some (.own, .lst (xs ++ ys)) else none
  | .add, .tup xs, .tup ys => if szOk (xs.length + ys.length) then some (.val, .tup (xs ++ ys)) else none
  | .sub, .int i, .int j => some (.val, .int (i - j))
  | .mul, .int i, .int j => if small i || small j then some (.val, .int (i * j)) else none
  | .fdiv, .int i, .int j => if 0 < j ∧ j < 1073741824 then some (.val, .int (i / j)) else none
  | .mod, .int i, .int j => if 0 < j then some (.val, .int (i % j)) else none
  | .pow, .int i, .int j => if 0 ≤ j ∧ j ≤ 1000 ∧ i.natAbs < 2 ^ 64 then some (.val, .int (i ^ j.toNat)) else none
  | _, _, _ => none
/-- d in l -/
def inD (d : D) (l : List D) : Bool := l.any fun z => eqD z d
def isNonD : D → Bool
  | .non => true
  | _ => false
def eqOk (d e : D) : Bool := sh 8 d && sh 8 e
def cmpD : COp → D → D → Option Bool
  | .eq, d, e => if eqOk d e then some (eqD d e) else none
  | .ne, d, e => if eqOk d e then some (!eqD d e) else none
  | .lt, .int i, .int j => some (decide (i < j))
  | .le, .int i, .int j => some (decide (i ≤ j))
  | .gt, .int i, .int j => some (decide (j < i))
  | .ge, .int i, .int j => some (decide (j ≤ i))
  | .lt, .tup xs, .tup ys => if eqOk (.tup xs) (.tup ys) && alks xs ys then some (ltDs xs ys) else none
  | .isin, d, .lst xs => if sh 7 d && sh 8 (.lst xs) then some (inD d xs) else none
  | .notin, d, .lst xs => if sh 7 d && sh 8 (.lst xs) then some (!inD d xs) else none
  | .isin, d, .tup xs => if sh 7 d && sh 8 (.tup xs) then some (inD d xs) else none
  | .notin, d, .tup xs => if sh 7 d && sh 8 (.tup xs) then some (!inD d xs) else none
  | .isin, d, .dic ks _ => if isKey d && ks.all isKey then some (inD d ks) else none
  | .notin, d, .dic ks _ => if isKey d && ks.all isKey then some (!inD d ks) else none
  | .is, d, .non => some (isNonD d)
  | .isnot, d, .non => some (!isNonD d)
  | .is, .bl a, .bl b => some (a == b)
  | .isnot, .bl a, .bl b => some (!(a == b))
  | _, _, _ => none
/-- a[i] -/
def idxD : D → D → Option D
  | .lst xs, .int i => L2.atI xs i
  | .tup xs, .int i => L2.atI xs i
  | .dic ks vs, k => if isKey k && ks.all isKey then ((ks.zip vs).find? (fun p => eqD p.1 k)).map (·.2) else none
  | _, _ => none
def cutD (xs : List D) (lo hi : Option Int) : List D := (xs.drop (HT.sIx xs.length 0 lo)).take (HT.sIx xs.length xs.length hi - HT.sIx xs.length 0 lo)
def slcD : D → Option Int → Option Int → Option (Kd × D)
  | .lst xs, lo, hi => some (.own, .lst (cutD xs lo hi))
  | .tup xs, lo, hi => some (.val, .tup (cutD xs lo hi))
  | _, _, _ => none
/-- every second one -/
def ev2 {α : Type} : List α → List α
  | [] => []
  | [x] => [x]
  | x :: _ :: r => x :: ev2 r
/-- 0: a[::-1]; n + 1: a[n::2] -/
def stpD : Nat → D → Option (Kd × D)
  | 0, .tup xs => some (.val, .tup xs.reverse)
  | 0, .lst xs => some (.own, .lst xs.reverse)
  | n + 1, .tup xs => some (.val, .tup (ev2 (xs.drop n)))
  | _, _ => none
/-- d[k] = v -/
def putK (k v : D) (ks vs : List D) : List D × List D :=
  if inD k ks then (ks, (ks.zip vs).map fun p => if eqD p.1 k then v else p.2) else (ks ++ [k], vs ++ [v])
def putD : D → D → D → Option D
  | .lst xs, .int i, v => (L2.ixN xs.length i).map fun j => .lst (xs.set j v)
  | .dic ks vs, k, v => if isKey k && ks.all isKey && decide (ks.length < 16777216) then let r := putK k v ks vs; some (.dic r.1 r.2) else none
  | _, _, _ => none
/-- d.pop(k) -/
def popK (k : D) (ks vs : List D) : List D × List D :=
  let z := (ks.zip vs).filter fun p => !eqD p.1 k
  (z.map (·.1), z.map (·.2))
def popD : D → D → Option D
  | .dic ks vs, k => if isKey k && ks.all isKey && inD k ks then let r := popK k ks vs; some (.dic r.1 r.2) else none
  | _, _ => none

/-! ### built-ins -/
inductive Ty where | int | bool | tuple | dict | str
def isD : Ty → D → Option Bool
  | .int, .int _ | .int, .bl _ => some true
  | .bool, .bl _ => some true
  | .tuple, .tup _ => some true
  | .dict, .dic _ _ => some true
  | .str, .str _ => some true
  | _, .non | _, .bl _ | _, .int _ | _, .str _ | _, .tup _ | _, .lst _ | _, .dic _ _ => some false
  | _, _ => none
inductive Blt where
  | len | tuple | list | all | any | sorted | sum | abs
  | isa (t : Ty) | lenSet | sortSet | tupKeys | listKeys | listVals | sortKeys
def boolsD : List D → Option (List Bool)
  | [] => some []
  | .bl b :: r => (boolsD r).map (b :: ·)
  | _ => none
def intsD : List D → Option (List Int)
  | [] => some []
  | .int b :: r => (intsD r).map (b :: ·)
  | _ => none
/-- without repetitions, the last ones kept -/
def dd {α : Type} [DecidableEq α] : List α → List α
  | [] => []
  | x :: xs => if x ∈ xs then dd xs else x :: dd xs
def tupsI : List D → Option (List (List Int))
  | [] => some []
  | .tup ds :: r => match intsD ds, tupsI r with
    | some k, some ks => some (k :: ks)
    | _, _ => none
  | _ => none
def tupI (k : List Int) : D := .tup (k.map .int)
/-- the members of set(xs), in some order -/
def setD (xs : List D) : Option (List D) := match intsD xs with
  | some ns => if ns.length ≤ 1000 then some ((dd ns).map .int) else none
  | none => match tupsI xs with
    | some ks => if (dd ks).length < 63 then some ((dd ks).map tupI) else none
    | none => none
def bltD : Blt → D → Option (Kd × D)
  | .len, .lst xs => some (.val, .int xs.length)
  | .len, .tup xs => some (.val, .int xs.length)
  | .len, .dic ks _ => some (.val, .int ks.length)
  | .len, .str s => if szOk s.length then some (.val, .int s.length) else none
  | .tuple, .lst xs => some (.val, .tup xs)
  | .tuple, .tup xs => some (.val, .tup xs)
  | .list, .lst xs => some (.own, .lst xs)
  | .list, .tup xs => some (.own, .lst xs)
  | .all, .lst xs => (boolsD xs).map fun bs => (.val, .bl (bs.all id))
  | .any, .lst xs => (boolsD xs).map fun bs => (.val, .bl (bs.any id))
  | .sorted, .lst xs => (sortBy xs xs).map fun ys => (.own, .lst ys)
  | .sorted, .tup xs => (sortBy xs xs).map fun ys => (.own, .lst ys)
  | .sortSet, .lst xs => (setD xs).bind fun zs => (sortBy zs zs).map fun ys => (.own, .lst ys)
  | .lenSet, .lst xs => (setD xs).map fun zs => (.val, .int zs.length)
  | .sum, .lst xs => (intsD xs).map fun ns => (.val, .int ns.sum)
  | .abs, .int i => some (.val, .int (if i < 0 then -i else i))
  | .isa t, d => (isD t d).map fun b => (.val, .bl b)
  | .tupKeys, .dic ks _ => some (.val, .tup ks)
  | .listKeys, .dic ks _ => some (.own, .lst ks)
  | .listVals, .dic _ vs => some (.own, .lst vs)
  | .sortKeys, .dic ks _ => (sortBy ks ks).map fun ys => (.own, .lst ys)
  | _, _ => none
inductive Mt where | index | count
def mthD : Mt → D → D → Option D
  | .index, .lst xs, d => if sh 7 d && sh 8 (.lst xs) then (xs.findIdx? (fun z => eqD z d)).map fun j => .int (j : Nat) else none
  | .count, .lst xs, d => if sh 7 d && sh 8 (.lst xs) then some (.int ((xs.filter (fun z => eqD z d)).length : Nat)) else none
  | _, _, _ => none

/-! ### the core language -/
inductive Tg where
  | one (i : Nat) | many (is : List Nat)
inductive CE where
  | nil | cons (a r : CE) | dead
  | var (i : Nat) | int (i : Int) | str (s : Str) | bl (b : Bool) | non
  | gl (g : Nat) | fn (f : Nat) | rd (a : CE) | share (a : CE)
  | neg (a : CE) | rep (a b : CE) | bin (o : BOp) (a b : CE) | cmp (o : COp) (a b : CE) | chain (o o' : COp) (a b c : CE)
  | and (a b : CE) | or (a b : CE) | not (a : CE) | ite (c a b : CE)
  | tup (l : CE) | lst (l : CE) | dic (l : CE)
  | idx (a i : CE) | rix (a i : CE) | slc (a : CE) (lo hi : Option Int) | slce (a lo hi : CE) | rev2 (a : CE) (s : Nat)
  | call (f : Nat) (l : CE) | callv (e l : CE) | blt (b : Blt) (a : CE) | sortk (f : Nat) (keys : Bool) (a : CE)
  | mth (m : Mt) (o a : CE)
  | isx (a : CE) (c : Nat) | um (m : Nat) (o l : CE) | new (c : Nat) (l : CE) | attr (o : CE) (f : Str)
  | lc (vs : List Nat) (tg : Tg) (it c e : CE)
  | lc2 (vs : List Nat) (tg : Tg) (it c : CE) (vs' : List Nat) (tg' : Tg) (it' c' e : CE)
  | dc (vs : List Nat) (tg : Tg) (it c k v : CE)
  | dc2 (vs : List Nat) (tg : Tg) (it c : CE) (vs' : List Nat) (tg' : Tg) (it' c' k v : CE)
  | iv (a : CE) | ir (l : CE) | iz (l : CE) | ie (l : CE) | ik (a : CE) | ivl (a : CE) | iit (a : CE)
inductive CS where
  | nil | cons (a r : CS) | dead
  | pass | ex (e : CE) | asg (tg : Tg) (e : CE) | par (i j : Nat) (l : CE) | aug (i : Nat) (o : BOp) (e : CE)
  | frz (i : Nat) | shr (i : Nat)
  | app (i : Nat) (e : CE) | ext (i : Nat) (e : CE) | put (i : Nat) (k e : CE) | popk (i : Nat) (k : CE) | upd (i : Nat) (e : CE)
  | cput (o k e : CE) | capp (o e : CE) | cpop (tg : Tg) (o : CE) | fld (o : CE) (f : Str) (e : CE)
  | ret (e : CE) | retn | ite (c : CE) (a b : CS) | for (tg : Tg) (it : CE) (b : CS) | wh (c : CE) (b : CS) | brk | cnt
  | rai (c : Nat) (l : CE) | tryc (i : Nat) (e : CE) (c n j : Nat)

structure Tab where
  call : Nat → List D → Wd → M (Kd × D)
  gv : Nat → Option D
  sub : Nat → Nat → Option Bool
  fuel : Nat

def set1 (env : En) (i : Nat) (d : D) : En := env.set i (.val d)
def setMany : List Nat → List D → En → Option En
  | [], [], env => some env
  | i :: is, d :: ds, env => setMany is ds (set1 env i d)
  | _, _, _ => none
def bindTg : Tg → D → En → Option En
  | .one i, d, env => some (set1 env i d)
  | .many is, .tup ds, env => setMany is ds env
  | _, _, _ => none
def wipeE (env : En) : List Nat → En
  | [] => env
  | v :: vs => (wipeE env vs).set v .no
/-- what may be kept for ever -/
def keepOk : Kd × D → Option D
  | (.val, d) => some d
  | (.own, d) => some d
  | _ => none
def keepAll : List (Kd × D) → Option (List D)
  | [] => some []
  | x :: xs => match keepOk x, keepAll xs with
    | some d, some ds => some (d :: ds)
    | _, _ => none
def isSlot : Kd × D → Bool
  | (.slot _, _) => true
  | _ => false
def isCel : Kd × D → Bool
  | (.cel, _) => true
  | _ => false
def pairsUp : List D → Option (List D × List D)
  | [] => some ([], [])
  | k :: v :: r => (pairsUp r).map fun p => (k :: p.1, v :: p.2)
  | _ => none
def putAll : List D → List D → D → Option D
  | [], [], d => some d
  | k :: ks, v :: vs, d => (putD d k v).bind (putAll ks vs)
  | _, _, _ => none
/-- the items that a walk over it meets -/
def itemsD : D → Option (List D)
  | .lst xs => some xs
  | .tup xs => some xs
  | _ => none
def zip2 (xs ys : List D) : List D := (xs.zip ys).map fun p => .tup [p.1, p.2]
def zipD : List (Kd × D) → Option (List D)
  | [(.val, .lst xs), (.val, .lst ys)] => some (zip2 xs ys)
  | [(.val, .lst xs), (.own, .lst ys)] => some (zip2 xs ys)
  | [(.own, .lst xs), (.own, .lst ys)] => some (zip2 xs ys)
  | [(.own, .lst xs), (.val, .lst ys)] => some (zip2 xs ys)
  | [(.val, .tup xs), (.val, .tup ys)] => some (zip2 xs ys)
  | _ => none
def enum2 (xs : List D) : List D := (xs.zipIdx).map fun p => .tup [.int (p.2 : Nat), p.1]
def enumD : List (Kd × D) → Option (List D)
  | [(.val, .lst xs)] => some (enum2 xs)
  | [(.own, .lst xs)] => some (enum2 xs)
  | [(.val, .tup xs)] => some (enum2 xs)
  | _ => none
def rangeD : List (Kd × D) → Option (List D)
  | [(_, .int n)] => if -1000000000 ≤ n ∧ n ≤ 16777216 then some ((List.range n.toNat).map fun (i : Nat) => .int (i : Nat)) else none
  | [(_, .int a), (_, .int b)] => if b - a ≤ 16777216 ∧ -1000000000 ≤ a ∧ a ≤ 1000000000 ∧ -1000000000 ≤ b ∧ b ≤ 1000000000 then some ((List.range (b - a).toNat).map fun (i : Nat) => .int (a + (i : Nat))) else none
  | _ => none
def isVarC (i : Nat) : CE → Bool
  | .var j => i == j
  | _ => false
/-- what may be walked: no shared thing; a slot's own list by its name alone -/
def okI (a : CE) (x : Kd × D) : Bool := match x with
  | (.cel, _) => false
  | (.slot i, _) => isVarC i a
  | _ => true
/-- none of the slots holds a list of its own -/
def noOwn (env : En) (vs : List Nat) : Bool := vs.all fun v => match env[v]? with | some (.own _) => false | _ => true
/-- a comprehension's turns -/
def lcLoop (f : D → Wd → M (Option D)) : List D → Wd → M (List D)
  | [], w => ret [] w
  | x :: xs, w => match f x w with
    | some (.ok r w1) => match lcLoop f xs w1 with
      | some (.ok rest w2) => ret (match r with | some d => d :: rest | none => rest) w2
      | _ => none
    | _ => none
/-- .. of two clauses: each turn gives several -/
def lcLoop2 (f : D → Wd → M (List D)) : List D → Wd → M (List D)
  | [], w => ret [] w
  | x :: xs, w => match f x w with
    | some (.ok r w1) => match lcLoop2 f xs w1 with
      | some (.ok rest w2) => ret (r ++ rest) w2
      | _ => none
    | _ => none
/-- a dict comprehension's turns -/
def dcLoop (f : D → Wd → M (Option (D × D))) : List D → D → Wd → M D
  | [], d, w => ret d w
  | x :: xs, d, w => match f x w with
    | some (.ok (some (k, v)) w1) => (match putD d k v with | some d' => dcLoop f xs d' w1 | none => none)
    | some (.ok none w1) => dcLoop f xs d w1
    | _ => none
def dcLoop2 (f : D → D → Wd → M D) : List D → D → Wd → M D
  | [], d, w => ret d w
  | x :: xs, d, w => match f x d w with
    | some (.ok d' w1) => dcLoop2 f xs d' w1
    | _ => none
def tst : Kd × D → Option Bool
  | (_, .bl b) => some b
  | _ => none
/-- the keys of a sort: the world stays as it is -/
def keysLoop (f : D → Option D) : List D → Option (List D)
  | [] => some []
  | x :: xs => match f x, keysLoop f xs with
    | some k, some ks => some (k :: ks)
    | _, _ => none
def nosl (x : M (Kd × D)) : M (Kd × D) := match x with
  | some (.ok (.slot _, _) _) => none
  | some (.ok (.cel, _) _) => none
  | x => x
def callR (T : Tab) (f : Nat) (args : List (Kd × D)) (w : Wd) : M (Kd × D) := if args.any isSlot then none else nosl (T.call f (args.map (·.2)) w)

/-- what a sort takes: the items of a list or tuple; the keys of a dict -/
def srcD : Bool → D → Option (List D)
  | false, .lst xs => some xs
  | false, .tup xs => some xs
  | true, .dic ks _ => some ks
  | _, _ => none
/-- the key of one item: by a call that sees nothing shared -/
def keyOne (T : Tab) (f : Nat) (d : D) : Option D := if sh 8 d then (match T.call f [d] [] with | some (.ok (.val, k) []) => some k | _ => none) else none
/-- [..] * n -/
def repD : Kd × D → D → Option (Kd × D)
  | (.own, .lst xs), .int j => if 0 ≤ j ∧ j ≤ 1000 ∧ xs.length ≤ 1000 then some (.own, .lst (List.replicate j.toNat xs).flatten) else none
  | _, _ => none
def isLstD : D → Bool
  | .lst _ => true
  | _ => false
def isNilC : CE → Bool
  | .nil => true
  | _ => false
/-- a part of a slice -/
def partD : Kd × D → Wd → M (Option Int)
  | (_, .int i), w => ret (some i) w
  | _, _ => none
mutual
def evE (T : Tab) : CE → En → Wd → M (Kd × D)
  | .var i, env, w => match env[i]? with
    | some (.val d) => ret (.val, d) w
    | some (.own d) => ret (.slot i, d) w
    | _ => none
  | .int i, _, w => ret (.val, .int i) w
  | .str s, _, w => ret (.val, .str s) w
  | .bl b, _, w => ret (.val, .bl b) w
  | .non, _, w => ret (.val, .non) w
  | .gl g, _, w => lift ((T.gv g).map fun d => (.val, d)) w
  | .fn f, _, w => ret (.val, .fn f) w
  | .rd a, env, w => bnd (evE T a env w) fun r w1 => match r with
    | (.val, .cell n) => lift ((w1[n]?).map fun d => (.cel, d)) w1
    | _ => none
  | .neg a, env, w => bnd (evE T a env w) fun r w1 => match r with
    | (_, .int i) => ret (.val, .int (-i)) w1
    | _ => none
  | .bin o a b, env, w => bnd1 (evE T a env w) fun x w1 => bnd (evE T b env w1) fun y w2 => lift (binD o x.2 y.2) w2
  | .rep a b, env, w => bnd1 (evE T a env w) fun x w1 => bnd (evE T b env w1) fun y w2 => lift (repD x y.2) w2
  | .cmp o a b, env, w => bnd1 (evE T a env w) fun x w1 => bnd (evE T b env w1) fun y w2 => lift ((cmpD o x.2 y.2).map fun b => (.val, .bl b)) w2
  | .chain o o' a b c, env, w => bnd1 (evE T a env w) fun x w1 => bnd1 (evE T b env w1) fun y w2 => match cmpD o x.2 y.2 with
    | some true => bnd (evE T c env w2) fun z w3 => lift ((cmpD o' y.2 z.2).map fun b => (.val, .bl b)) w3
    | some false => ret (.val, .bl false) w2
    | none => none
  | .and a b, env, w => bnd (evE T a env w) fun x w1 => match x with
    | (_, .bl true) => evE T b env w1
    | (_, .bl false) => ret (.val, .bl false) w1
    | _ => none
  | .or a b, env, w => bnd (evE T a env w) fun x w1 => match x with
    | (_, .bl true) => ret (.val, .bl true) w1
    | (_, .bl false) => evE T b env w1
    | _ => none
  | .not a, env, w => bnd (evE T a env w) fun x w1 => match x with
    | (_, .bl b) => ret (.val, .bl (!b)) w1
    | _ => none
  | .ite c a b, env, w => bnd (evE T c env w) fun x w1 => match x with
    | (_, .bl true) => evE T a env w1
    | (_, .bl false) => evE T b env w1
    | _ => none
  | .tup l, env, w => bnd (evL T l env w) fun xs w1 => lift ((keepAll xs).map fun ds => (.val, .tup ds)) w1
  | .lst l, env, w => bnd (evL T l env w) fun xs w1 => lift ((keepAll xs).map fun ds => (.own, .lst ds)) w1
  | .dic .nil, env, w => ret (.own, .dic [] []) w
  | .idx a i, env, w => bnd1 (evE T a env w) fun x w1 => bnd (evE T i env w1) fun y w2 => lift ((idxD x.2 y.2).map fun d => (.val, d)) w2
  | .rix a i, env, w => bnd1 (evE T a env w) fun x w1 => bnd (evE T i env w1) fun y w2 => match x with
    | (.val, .cell n) => (match w2[n]? with
      | some c => lift ((idxD c y.2).map fun d => (.val, d)) w2
      | none => none)
    | _ => none
  | .slc a lo hi, env, w => bnd (evE T a env w) fun x w1 => lift (slcD x.2 lo hi) w1
  | .slce a lo hi, env, w => bnd1 (evE T a env w) fun x w1 => bnd (if isNilC lo then ret none w1 else bnd (evE T lo env w1) fun y w2 => partD y w2) fun l w2 =>
      bnd (if isNilC hi then ret none w2 else bnd (evE T hi env w2) fun y w3 => partD y w3) fun h w3 => lift (slcD x.2 l h) w3
  | .rev2 a s, env, w => bnd (evE T a env w) fun x w1 => lift (stpD s x.2) w1
  | .call f l, env, w => bnd (evL T l env w) fun xs w1 => callR T f xs w1
  | .isx a c, env, w => bnd (evE T a env w) fun x w1 => match x.2 with
    | .exc k [] => lift ((T.sub k c).map fun b => (.val, .bl b)) w1
    | _ => none
  | .blt b a, env, w => bnd (evE T a env w) fun x w1 => lift (bltD b x.2) w1
  | .sortk f keys a, env, w => bnd (evE T a env w) fun x w1 =>
    match srcD keys x.2 with
    | some xs => (match keysLoop (keyOne T f) xs with
      | some kz => lift ((sortBy kz xs).map fun ys => (.own, .lst ys)) w1
      | none => none)
    | none => none
  | .mth m o a, env, w => bnd1 (evE T o env w) fun x w1 => if isLstD x.2 then bnd (evE T a env w1) fun y w2 => lift ((mthD m x.2 y.2).map fun d => (.val, d)) w2 else none
  | .lc vs tg it c e, env, w => if noOwn env vs then bnd (evI T it env w) fun xs w1 =>
    bnd (lcLoop (fun x w2 => match bindTg tg x (wipeE env vs) with
      | some env' => bnd (evE T c env' w2) fun b w3 => match b with
        | (_, .bl true) => bnd (evE T e env' w3) fun y w4 => lift ((keepOk y).map some) w4
        | (_, .bl false) => ret none w3
        | _ => none
      | none => none) xs w1) fun ys w2 => ret (.own, .lst ys) w2
    else none
  | .lc2 vs tg it c vs' tg' it' c' e, env, w => if noOwn env vs then bnd (evI T it env w) fun xs w1 =>
    bnd (lcLoop2 (fun x w2 => match bindTg tg x (wipeE env vs) with
      | some env' => bnd (evE T c env' w2) fun b w3 => match b with
        | (_, .bl true) => if noOwn env' vs' then bnd (evI T it' env' w3) fun ys w4 =>
            lcLoop (fun x w2 => match bindTg tg' x (wipeE env' vs') with
              | some env'' => bnd (evE T c' env'' w2) fun b w3 => match b with
                | (_, .bl true) => bnd (evE T e env'' w3) fun y w4 => lift ((keepOk y).map some) w4
                | (_, .bl false) => ret none w3
                | _ => none
              | none => none) ys w4
          else none
        | (_, .bl false) => ret [] w3
        | _ => none
      | none => none) xs w1) fun ys w2 => if szOk ys.length then ret (.own, .lst ys) w2 else none
    else none
  | .dc vs tg it c k v, env, w => if noOwn env vs then bnd (evI T it env w) fun xs w1 =>
    bnd (dcLoop (fun x w2 => match bindTg tg x (wipeE env vs) with
      | some env' => bnd (evE T c env' w2) fun b w3 => match b with
        | (_, .bl true) => bnd (evE T k env' w3) fun y w4 => (match keepOk y with
          | some a => bnd (evE T v env' w4) fun z w5 => lift ((keepOk z).map fun b => some (a, b)) w5
          | none => none)
        | (_, .bl false) => ret none w3
        | _ => none
      | none => none) xs (.dic [] []) w1) fun d w2 => ret (.own, d) w2
    else none
  | _, _, _ => none
def evL (T : Tab) : CE → En → Wd → M (List (Kd × D))
  | .nil, _, w => ret [] w
  | .cons a r, env, w => bnd1 (evE T a env w) fun x w1 => bnd (evL T r env w1) fun xs w2 => ret (x :: xs) w2
  | _, _, _ => none
def evI (T : Tab) : CE → En → Wd → M (List D)
  | .iv a, env, w => bnd (evE T a env w) fun x w1 => if okI a x then lift (itemsD x.2) w1 else none
  | .ir l, env, w => bnd (evL T l env w) fun xs w1 => lift (rangeD xs) w1
  | .iz l, env, w => bnd (evL T l env w) fun xs w1 => lift (zipD xs) w1
  | .ie l, env, w => bnd (evL T l env w) fun xs w1 => lift (enumD xs) w1
  | _, _, _ => none
end

/-! ### statements -/
inductive Out where
  | next (env : En) (w : Wd)
  | ret (k : Kd) (d : D) (w : Wd)
  | brk (env : En) (w : Wd)
  | cnt (env : En) (w : Wd)
  | exc (c : Nat) (p : List D) (w : Wd)
def obnd {α : Type} (x : M α) (f : α → Wd → Option Out) : Option Out :=
  match x with
  | some (.ok a w) => f a w
  | some (.exc c p w) => some (.exc c p w)
  | none => none
def forLoop (tg : Tg) (body : En → Wd → Option Out) : List D → En → Wd → Option Out
  | [], env, w => some (.next env w)
  | x :: xs, env, w => match bindTg tg x env with
    | some env1 => (match body env1 w with
      | some (.next env2 w2) => forLoop tg body xs env2 w2
      | some (.cnt env2 w2) => forLoop tg body xs env2 w2
      | some (.brk env2 w2) => some (.next env2 w2)
      | r => r)
    | none => none
def whLoop (c : En → Wd → M (Kd × D)) (body : En → Wd → Option Out) : Nat → En → Wd → Option Out
  | 0, _, _ => none
  | n + 1, env, w => obnd (c env w) fun b w1 => match b with
    | (_, .bl true) => (match body env w1 with
      | some (.next env2 w2) => whLoop c body n env2 w2
      | some (.cnt env2 w2) => whLoop c body n env2 w2
      | some (.brk env2 w2) => some (.next env2 w2)
      | r => r)
    | (_, .bl false) => some (.next env w1)
    | _ => none
/-- a slot's list or dict told as what nothing will change -/
def frzE (env : En) (i : Nat) : En := match env[i]? with | some (.own d) => env.set i (.val d) | _ => env
/-- the slot of what a walk goes over is kept as it is from then on -/
def frzI : CE → En → En
  | .iv (.var i), env => frzE env i
  | _, env => env

def varOf : CE → Option Nat
  | .var i => some i
  | _ => none
def evS (T : Tab) : CS → En → Wd → Option Out
  | .nil, env, w => some (.next env w)
  | .cons a r, env, w => match evS T a env w with
    | some (.next env1 w1) => evS T r env1 w1
    | x => x
  | .pass, env, w => some (.next env w)
  | .ex e, env, w => obnd (evE T e env w) fun _ w1 => some (.next env w1)
  | .asg (.one i) e, env, w => obnd (evE T e env w) fun x w1 => match x with
    | (.val, d) => some (.next (env.set i (.val d)) w1)
    | (.own, d) => some (.next (env.set i (.own d)) w1)
    | _ => none
  | .asg (.many is) e, env, w => obnd (evE T e env w) fun x w1 => match keepOk x with
    | some d => (bindTg (.many is) d env).map fun env' => .next env' w1
    | none => none
  | .aug i o e, env, w => match env[i]? with
    | some (.val (.int x)) => obnd (evE T e env w) fun y w1 => (match binD o (.int x) y.2 with
      | some (.val, .int z) => some (.next (env.set i (.val (.int z))) w1)
      | _ => none)
    | _ => none
  | .frz i, env, w => some (.next (frzE env i) w)
  | .shr i, env, w => match env[i]? with
    | some (.own d) => some (.next (env.set i (.val (.cell w.length))) (w ++ [d]))
    | _ => none
  | .par i j l, env, w => obnd (evL T l env w) fun xs w1 => match keepAll xs with
    | some [d, e] => some (.next ((env.set i (.val d)).set j (.val e)) w1)
    | _ => none
  | .app i e, env, w => match env[i]? with
    | some (.own (.lst xs)) => obnd (evE T e env w) fun x w1 => match keepOk x with
      | some d => if decide (xs.length < 16777216) then some (.next (env.set i (.own (.lst (xs ++ [d])))) w1) else none
      | none => none
    | _ => none
  | .put i k e, env, w => match env[i]? with
    | some (.own c) => obnd (evE T e env w) fun x w1 => match keepOk x with
      | some d => obnd (evE T k env w1) fun y w2 => match keepOk y with
        | some kd => (putD c kd d).map fun c' => .next (env.set i (.own c')) w2
        | none => none
      | none => none
    | _ => none
  | .popk i k, env, w => match env[i]? with
    | some (.own (.dic ks ws)) => obnd (evE T k env w) fun y w1 => match keepOk y with
      | some kd => (popD (.dic ks ws) kd).map fun c' => .next (env.set i (.own c')) w1
      | none => none
    | _ => none
  | .cput o k e, env, w => obnd (evE T e env w) fun x w1 => match keepOk x with
    | some d => obnd (evE T o env w1) fun z w2 => match z with
      | (.val, .cell n) => obnd (evE T k env w2) fun y w3 => match keepOk y, w3[n]? with
        | some kd, some c => (putD c kd d).map fun c' => .next env (w3.set n c')
        | _, _ => none
      | _ => none
    | none => none
  | .ret e, env, w => match varOf e with
    | some i => (match env[i]? with
      | some (.val d) => some (.ret .val d w)
      | some (.own d) => some (.ret .own d w)
      | _ => none)
    | none => obnd (evE T e env w) fun x w1 => match x with
      | (.val, d) => some (.ret .val d w1)
      | (.own, d) => some (.ret .own d w1)
      | _ => none
  | .retn, _, w => some (.ret .val .non w)
  | .ite c a b, env, w => obnd (evE T c env w) fun x w1 => match x with
    | (_, .bl true) => evS T a env w1
    | (_, .bl false) => evS T b env w1
    | _ => none
  | .for tg it b, env, w => obnd (evI T it env w) fun xs w1 => forLoop tg (evS T b) xs (frzI it env) w1
  | .wh c b, env, w => whLoop (evE T c) (evS T b) T.fuel env w
  | .brk, env, w => some (.brk env w)
  | .cnt, env, w => some (.cnt env w)
  | .rai c .nil, env, w => some (.exc c [] w)
  | .tryc i e c n j, env, w => match evE T e env w with
    | some (.ok (.val, d) w1) => some (.next (env.set i (.val d)) w1)
    | some (.ok (.own, d) w1) => some (.next (env.set i (.own d)) w1)
    | some (.exc k [] w1) => (match T.sub k c with
      | some true => if decide (n ≠ j) && decide (n < env.length) then some (.next ((env.set j (.val (.exc k []))).set n .no) w1) else none
      | some false => some (.exc k [] w1)
      | none => none)
    | _ => none
  | _, _, _ => none

/-! ### defs -/
structure Df where
  pars : Nat
  slots : Nat
  body : CS
def startE (n : Nat) (ds : List D) : En := ds.map .val ++ List.replicate (n - ds.length) .no
/-- it leads to none of the shared things from the m-th on -/
def clt (m : Nat) : Nat → D → Bool
  | _, .non | _, .bl _ | _, .int _ | _, .str _ | _, .fn _ => true
  | _, .cell k => decide (k < m)
  | n + 1, .tup xs => xs.all (clt m n)
  | n + 1, .lst xs => xs.all (clt m n)
  | n + 1, .dic ks vs => ks.all (clt m n) && vs.all (clt m n)
  | _, _ => false
/-- what was shared within a def alone is forgotten behind it -/
def trim (w w' : Wd) (ds : List D) : Wd := if decide (w.length < w'.length) && ds.all (clt w.length 9) && (w'.take w.length).all (clt w.length 9) then w'.take w.length else w'
/-- what a def hands back -/
def back (w : Wd) : Option Out → M (Kd × D)
  | some (.ret k d w') => some (.ok (k, d) (trim w w' [d]))
  | some (.next _ w') => some (.ok (.val, .non) (trim w w' []))
  | some (.exc c p w') => some (.exc c p (trim w w' p))
  | _ => none
def runD (T : Tab) (d : Df) (ds : List D) (w : Wd) : M (Kd × D) := if ds.length = d.pars then back w (evS T d.body (startE d.slots ds) w) else none
def evC (P : Nat → Option Df) (gv : Nat → Option D) (sub : Nat → Nat → Option Bool) (fuel : Nat) : Nat → Nat → List D → Wd → M (Kd × D)
  | 0, _, _, _ => none
  | n + 1, f, ds, w => match P f with
    | some d => runD ⟨evC P gv sub fuel n, gv, sub, fuel⟩ d ds w
    | none => none
end R
end
section
set_option Elab.async false
set_option linter.all false
set_option maxRecDepth 100000
/-! RA: data by value, what stands for it in the abstract heap, and the relation of a run's state to an environment of data. -/
namespace R
open PySem PySem.Spec PyProof.Rows L2

/-- the static part that a value's meaning hangs on -/
structure St0 where
  P : Program
  w : World
  K : PySem.W.Frag
  fnv : Nat → V
  exv : Nat → Value

mutual
/-- data as the library's own -/
def py : D → PyData
  | .bl b => .bool b
  | .int i => .int i
  | .str s => .str s
  | .tup xs => .tuple (pys xs)
  | .lst xs => .list (pys xs)
  | _ => .none
def pys : List D → List PyData
  | [] => []
  | d :: ds => py d :: pys ds
end
mutual
/-- data as a key -/
def kof : D → NestedKey
  | .bl b => .num (if b = true then 1 else 0)
  | .int i => .num i
  | .str s => .text s
  | .tup xs => .tup (kofs xs)
  | _ => .none
def kofs : List D → List NestedKey
  | [] => []
  | d :: ds => kof d :: kofs ds
end
theorem pys_map : ∀ ds : List D, pys ds = ds.map py
  | [] => rfl
  | d :: ds => by simp only [pys, pys_map ds, List.map_cons]
theorem kofs_map : ∀ ds : List D, kofs ds = ds.map kof
  | [] => rfl
  | d :: ds => by simp only [kofs, kofs_map ds, List.map_cons]

/-- a dict's object, told by its one form: its keys and values -/
def dxo (a : Addr) (o : Obj) : HO := .ext fun h => h.get? a = some o
structure DObj (w : World) (o : Obj) (nk : List NestedKey) (ks vs : List V) : Prop where
  ex : o.ExactDict
  dt : ∃ (es : Array DictEntry) (ep : Nat), o.data = .dict es ep ∧ es.size = nk.length ∧ ks.length = nk.length ∧ vs.length = nk.length ∧
    ∀ (i : Nat) (e : DictEntry), es[i]? = some e → ∃ k x y, nk[i]? = some k ∧ ks[i]? = some x ∧ vs[i]? = some y ∧ e.hash = NestedKey.hash w k ∧ RelV x e.key ∧ RelV y e.val
  nd : nk.Nodup
  sz : nk.length ≤ sizeLine

/-- an exception of the class cls -/
def exK (cls : Value) (d : Option Addr) (a : Addr) : HO := .ext fun h => ∃ (oe : Obj) (vs : Array Value), h.get? a = some oe ∧ Zc cls d oe ∧ oe.data = .fields vs
mutual
/-- the value v is the data d: by what stands in F, the shared things at μ -/
def Rep (S : St0) (F : Hp) (μ : List Addr) : D → V → Prop
  | .non, v => v = .non
  | .bl b, v => v = .bl b
  | .int i, v => v = .int i
  | .str s, v => v = .str s
  | .tup ds, v => ∃ a vs, v = .ref a ∧ SqT S.K F a vs ∧ Reps S F μ ds vs
  | .lst ds, v => ∃ a vs, v = .ref a ∧ SqL S.K F a vs ∧ Reps S F μ ds vs
  | .dic ks ws, v => ∃ a o kv wv, v = .ref a ∧ F a = some (dxo a o) ∧ (a == sysModules) = false ∧ DObj S.w o (ks.map kof) kv wv ∧ ks.all (ky 8) = true ∧ Reps S F μ ks kv ∧ Reps S F μ ws wv
  | .fn f, v => v = S.fnv f
  | .cell n, v => ∃ a, μ[n]? = some a ∧ v = .ref a
  | .exc c [], v => ∃ a, v = .ref a ∧ F a = some (exK (S.exv c) none a)
  | .exc _ (_ :: _), _ => False
  | .obj _ _ _, _ => False
def Reps (S : St0) (F : Hp) (μ : List Addr) : List D → List V → Prop
  | [], vs => vs = []
  | d :: ds, vs => ∃ v r, vs = v :: r ∧ Rep S F μ d v ∧ Reps S F μ ds r
end

theorem Same.sqT {K : PySem.W.Frag} {H H' : Hp} {a : Addr} {xs : List V} (e : Same H H') (h : SqT K H a xs) : SqT K H' a xs := by
  rcases h with (h | ⟨o, h⟩) | h
  · exact .inl (.inl (e _ _ h))
  · exact .inl (.inr ⟨o, e _ _ h⟩)
  · exact .inr h

theorem Same.sqL {K : PySem.W.Frag} {H H' : Hp} {a : Addr} {xs : List V} (e : Same H H') (h : SqL K H a xs) : SqL K H' a xs := by
  rcases h with (h | ⟨o, h⟩) | h
  · exact .inl (.inl (e _ _ h))
  · exact .inl (.inr ⟨o, e _ _ h⟩)
  · exact .inr h
theorem Same.rd {H H' : Hp} {a : Addr} {u : HO} (e : Same H H') (h : Rd H a u) : Rd H' a u := by
  rcases h with h | ⟨o, h⟩
  · exact .inl (e _ _ h)
  · exact .inr ⟨o, e _ _ h⟩

def Pre (μ μ' : List Addr) : Prop := ∃ τ, μ' = μ ++ τ
theorem Pre.refl (μ : List Addr) : Pre μ μ := ⟨[], by simp⟩
theorem Pre.trans {a b c : List Addr} (h : Pre a b) (g : Pre b c) : Pre a c := by
  obtain ⟨t, rfl⟩ := h
  obtain ⟨u, rfl⟩ := g
  exact ⟨t ++ u, by simp⟩
theorem Pre.get {μ μ' : List Addr} (h : Pre μ μ') {n : Nat} {a : Addr} (e : μ[n]? = some a) : μ'[n]? = some a := by
  obtain ⟨t, rfl⟩ := h
  rw [List.getElem?_append_left (List.getElem?_eq_some_iff.mp e).1]
  exact e

mutual
theorem Rep.mono {S : St0} {F F' : Hp} {μ μ' : List Addr} (hF : Same F F') (hμ : Pre μ μ') : ∀ (d : D) (v : V), Rep S F μ d v → Rep S F' μ' d v
  | .non, _, h => by simpa only [Rep] using h
  | .bl _, _, h => by simpa only [Rep] using h
  | .int _, _, h => by simpa only [Rep] using h
  | .str _, _, h => by simpa only [Rep] using h
  | .tup ds, v, h => by
    simp only [Rep] at h ⊢
    obtain ⟨a, vs, e, hs, hr⟩ := h
    exact ⟨a, vs, e, Same.sqT hF hs, Reps.mono hF hμ ds vs hr⟩
  | .lst ds, v, h => by
    simp only [Rep] at h ⊢
    obtain ⟨a, vs, e, hs, hr⟩ := h
    exact ⟨a, vs, e, Same.sqL hF hs, Reps.mono hF hμ ds vs hr⟩
  | .dic ks ws, v, h => by
    simp only [Rep] at h ⊢
    obtain ⟨a, o, kv, wv, e, hs, h1, h2, h3, h4, h5⟩ := h
    exact ⟨a, o, kv, wv, e, hF _ _ hs, h1, h2, h3, Reps.mono hF hμ ks kv h4, Reps.mono hF hμ ws wv h5⟩
  | .fn _, _, h => by simpa only [Rep] using h
  | .cell n, v, h => by
    simp only [Rep] at h ⊢
    obtain ⟨a, h1, h2⟩ := h
    exact ⟨a, hμ.get h1, h2⟩
  | .exc c [], v, h => by
    simp only [Rep] at h ⊢
    obtain ⟨a, e, h⟩ := h
    exact ⟨a, e, hF _ _ h⟩
  | .exc _ (_ :: _), _, h => by simp only [Rep] at h
  | .obj _ _ _, _, h => by simp only [Rep] at h
theorem Reps.mono {S : St0} {F F' : Hp} {μ μ' : List Addr} (hF : Same F F') (hμ : Pre μ μ') : ∀ (ds : List D) (vs : List V), Reps S F μ ds vs → Reps S F' μ' ds vs
  | [], _, h => by simpa only [Reps] using h
  | d :: ds, vs, h => by
    simp only [Reps] at h ⊢
    obtain ⟨v, r, e, h1, h2⟩ := h
    exact ⟨v, r, e, Rep.mono hF hμ d v h1, Reps.mono hF hμ ds r h2⟩
end

section
variable {S : St0} {F : Hp} {μ : List Addr}
theorem Reps.nil : Reps S F μ [] [] := by simp only [Reps]
theorem Reps.cons {d : D} {ds : List D} {v : V} {vs : List V} (h : Rep S F μ d v) (t : Reps S F μ ds vs) : Reps S F μ (d :: ds) (v :: vs) := by
  simp only [Reps]
  exact ⟨v, vs, rfl, h, t⟩
theorem Reps.inv {d : D} {ds : List D} {vs : List V} (h : Reps S F μ (d :: ds) vs) : ∃ v r, vs = v :: r ∧ Rep S F μ d v ∧ Reps S F μ ds r := by
  simpa only [Reps] using h
theorem Reps.inv0 {vs : List V} (h : Reps S F μ [] vs) : vs = [] := by
  simpa only [Reps] using h
theorem Reps.length : ∀ {ds : List D} {vs : List V}, Reps S F μ ds vs → vs.length = ds.length
  | [], _, h => by rw [h.inv0]; rfl
  | d :: ds, vs, h => by
    obtain ⟨v, r, rfl, _, h2⟩ := h.inv
    simp [Reps.length h2]
theorem Reps.get : ∀ {ds : List D} {vs : List V} {i : Nat} {d : D}, Reps S F μ ds vs → ds[i]? = some d → ∃ v, vs[i]? = some v ∧ Rep S F μ d v
  | [], _, _, _, _, e => by simp at e
  | d :: ds, vs, 0, x, h, e => by
    obtain ⟨v, r, rfl, h1, h2⟩ := h.inv
    simp at e
    subst e
    exact ⟨v, rfl, h1⟩
  | d :: ds, vs, i + 1, x, h, e => by
    obtain ⟨v, r, rfl, h1, h2⟩ := h.inv
    obtain ⟨u, e1, e2⟩ := Reps.get (i := i) (d := x) h2 (by simpa using e)
    exact ⟨u, by simpa using e1, e2⟩
theorem Reps.getV : ∀ {ds : List D} {vs : List V} {i : Nat} {v : V}, Reps S F μ ds vs → vs[i]? = some v → ∃ d, ds[i]? = some d ∧ Rep S F μ d v
  | [], _, _, _, h, e => by rw [h.inv0] at e; simp at e
  | d :: ds, vs, 0, x, h, e => by
    obtain ⟨v, r, rfl, h1, h2⟩ := h.inv
    simp at e
    subst e
    exact ⟨d, rfl, h1⟩
  | d :: ds, vs, i + 1, x, h, e => by
    obtain ⟨v, r, rfl, h1, h2⟩ := h.inv
    obtain ⟨u, e1, e2⟩ := Reps.getV (i := i) (v := x) h2 (by simpa using e)
    exact ⟨u, by simpa using e1, e2⟩
theorem Reps.append : ∀ {ds es : List D} {vs us : List V}, Reps S F μ ds vs → Reps S F μ es us → Reps S F μ (ds ++ es) (vs ++ us)
  | [], _, _, _, h, g => by rw [h.inv0]; exact g
  | d :: ds, _, _, _, h, g => by
    obtain ⟨v, r, rfl, h1, h2⟩ := h.inv
    exact Reps.cons h1 (Reps.append h2 g)
theorem Reps.take : ∀ {ds : List D} {vs : List V} (n : Nat), Reps S F μ ds vs → Reps S F μ (ds.take n) (vs.take n)
  | _, _, 0, _ => Reps.nil
  | [], _, n + 1, h => by rw [h.inv0]; exact Reps.nil
  | d :: ds, _, n + 1, h => by
    obtain ⟨v, r, rfl, h1, h2⟩ := h.inv
    exact Reps.cons h1 (Reps.take n h2)
theorem Reps.drop : ∀ {ds : List D} {vs : List V} (n : Nat), Reps S F μ ds vs → Reps S F μ (ds.drop n) (vs.drop n)
  | _, _, 0, h => h
  | [], _, n + 1, h => by rw [h.inv0]; exact Reps.nil
  | d :: ds, _, n + 1, h => by
    obtain ⟨v, r, rfl, h1, h2⟩ := h.inv
    exact Reps.drop n h2
theorem Reps.set {d : D} {v : V} (hv : Rep S F μ d v) : ∀ {ds : List D} {vs : List V} (n : Nat), Reps S F μ ds vs → Reps S F μ (ds.set n d) (vs.set n v)
  | [], _, _, h => by rw [h.inv0]; exact Reps.nil
  | _ :: ds, _, 0, h => by
    obtain ⟨v, r, rfl, h1, h2⟩ := h.inv
    exact Reps.cons hv h2
  | _ :: ds, _, n + 1, h => by
    obtain ⟨v, r, rfl, h1, h2⟩ := h.inv
    exact Reps.cons h1 (Reps.set hv n h2)
/-- from each place -/
theorem Reps.of_get : ∀ {ds : List D} {vs : List V}, vs.length = ds.length → (∀ (i : Nat) d v, ds[i]? = some d → vs[i]? = some v → Rep S F μ d v) → Reps S F μ ds vs
  | [], vs, e, _ => by
    have : vs = [] := List.eq_nil_of_length_eq_zero (by simpa using e)
    rw [this]; exact Reps.nil
  | d :: ds, [], e, _ => by simp at e
  | d :: ds, v :: vs, e, h => Reps.cons (h 0 d v rfl rfl) (Reps.of_get (by simpa using e) fun i x y h1 h2 => h (i + 1) x y (by simpa using h1) (by simpa using h2))
end

/-- to the library's own reading -/
theorem Reps.dps_of {S : St0} {F H : Hp} {μ : List Addr} {p : D → Bool} (h : ∀ d v, p d = true → Rep S F μ d v → Dp S.K H v (py d)) : ∀ (ds : List D) (vs : List V), ds.all p = true → Reps S F μ ds vs → DpAll S.K H vs (pys ds)
  | [], vs, _, r => by
    rw [r.inv0]
    exact .nil
  | d :: ds, vs, e, r => by
    obtain ⟨v, t, rfl, h1, h2⟩ := r.inv
    simp only [List.all_cons, Bool.and_eq_true] at e
    exact .cons (h d v e.1 h1) (Reps.dps_of h ds t e.2 h2)
theorem Rep.dp {S : St0} {F H : Hp} {μ : List Addr} (hF : Same F H) : ∀ (n : Nat) (d : D) (v : V), sh n d = true → Rep S F μ d v → Dp S.K H v (py d) := fun n => by
  induction n with
  | zero =>
    intro d v e h
    cases d <;> simp [sh] at e <;> simp only [Rep] at h <;> subst h <;> simp only [py] <;> constructor
  | succ n ih =>
    intro d v e h
    cases d with
    | tup ds =>
      simp only [Rep] at h
      obtain ⟨a, vs, rfl, hs, hr⟩ := h
      simp only [py]
      exact .tup (Same.sqT hF hs) (Reps.dps_of ih ds vs (by simpa [sh] using e) hr)
    | lst ds =>
      simp only [Rep] at h
      obtain ⟨a, vs, rfl, hs, hr⟩ := h
      simp only [py]
      exact .lst (Same.sqL hF hs) (Reps.dps_of ih ds vs (by simpa [sh] using e) hr)
    | _ => simp [sh] at e <;> simp only [Rep] at h <;> subst h <;> simp only [py] <;> constructor

/-! ### the world and the environment -/
open Classical in
/-- H without what B holds -/
noncomputable def hide (H : Hp) (B : Addr → Prop) : Hp := fun b => if B b then none else H b
theorem hide_of {H : Hp} {B : Addr → Prop} {b : Addr} {o : HO} (h : H b = some o) (n : ¬ B b) : hide H B b = some o := by
  unfold hide
  rw [if_neg n]
  exact h
theorem of_hide {H : Hp} {B : Addr → Prop} {b : Addr} {o : HO} (h : hide H B b = some o) : H b = some o ∧ ¬ B b := by
  unfold hide at h
  split at h
  · cases h
  · exact ⟨h, by assumption⟩
theorem hide_same (H : Hp) (B : Addr → Prop) : Same (hide H B) H := fun _ _ h => (of_hide h).1
theorem hide_mono {H H' : Hp} {B B' : Addr → Prop} (h : ∀ b o, H b = some o → ¬ B b → H' b = some o) (g : ∀ b o, H b = some o → ¬ B b → ¬ B' b) : Same (hide H B) (hide H' B') := fun b o e => by
  obtain ⟨e1, e2⟩ := of_hide e
  exact hide_of (h b o e1 e2) (g b o e1 e2)


/-- what stands at a, an object that may be changed -/
def Cont (S : St0) (F : Hp) (μ : List Addr) (H : Hp) (a : Addr) : D → Prop
  | .lst ds => ∃ vs, H a = some (.lst vs) ∧ Reps S F μ ds vs
  | .dic ks ws => ∃ o kv wv, H a = some (dxo a o) ∧ (a == sysModules) = false ∧ DObj S.w o (ks.map kof) kv wv ∧ ks.all (ky 8) = true ∧ Reps S F μ ks kv ∧ Reps S F μ ws wv
  | _ => False
theorem Cont.mono {S : St0} {F F' : Hp} {μ μ' : List Addr} {H H' : Hp} {a : Addr} {d : D} (hF : Same F F') (hμ : Pre μ μ') (hH : ∀ o, H a = some o → H' a = some o) (h : Cont S F μ H a d) : Cont S F' μ' H' a d := by
  cases d with
  | lst ds =>
    obtain ⟨vs, h1, h2⟩ := h
    exact ⟨vs, hH _ h1, Reps.mono hF hμ _ _ h2⟩
  | dic ks ws =>
    obtain ⟨o, kv, wv, h1, h2, h3, h4, h5, h6⟩ := h
    exact ⟨o, kv, wv, hH _ h1, h2, h3, h4, Reps.mono hF hμ _ _ h5, Reps.mono hF hμ _ _ h6⟩
  | _ => exact h.elim
theorem Cont.some {S : St0} {F : Hp} {μ : List Addr} {H : Hp} {a : Addr} {d : D} (h : Cont S F μ H a d) : H a ≠ none := by
  cases d with
  | lst ds =>
    obtain ⟨vs, h1, h2⟩ := h
    rw [h1]; simp
  | dic ks ws =>
    obtain ⟨o, kv, wv, h1, _⟩ := h
    rw [h1]; simp
  | _ => exact h.elim
/-- it is data that is read -/
theorem Cont.rep {S : St0} {F : Hp} {μ : List Addr} {H : Hp} {a : Addr} {d : D} (h : Cont S F μ H a d) (hF : ∀ o, H a = Option.some o → F a = Option.some o) : Rep S F μ d (.ref a) := by
  cases d with
  | lst ds =>
    obtain ⟨vs, h1, h2⟩ := h
    simp only [Rep]
    exact ⟨a, vs, rfl, .inl (Rd.of (hF _ h1)), h2⟩
  | dic ks ws =>
    obtain ⟨o, kv, wv, h1, h2, h3, h4, h5, h6⟩ := h
    simp only [Rep]
    exact ⟨a, o, kv, wv, rfl, hF _ h1, h2, h3, h4, h5, h6⟩
  | _ => exact h.elim

structure WRel (S : St0) (H : Hp) (μ : List Addr) (w : Wd) (G : Addr → Prop) : Prop where
  len : w.length = μ.length
  nd : μ.Nodup
  cont : ∀ (n : Nat) (a : Addr) (d : D), μ[n]? = some a → w[n]? = some d → Cont S (hide H fun b => b ∈ μ ∨ G b) μ H a d
  dis : ∀ a, a ∈ μ → ¬ G a
  gd : ∀ b, G b → H b ≠ none
def ownAt (env : En) (σ : L2.St) (a : Addr) : Prop := ∃ (i : Nat) (d : D), env[i]? = some (.own d) ∧ σ[i]? = some (some (V.ref a))
abbrev GO (G : Addr → Prop) (env : En) (σ : L2.St) : Addr → Prop := fun b => G b ∨ ownAt env σ b
abbrev BB (μ : List Addr) (G : Addr → Prop) (env : En) (σ : L2.St) : Addr → Prop := fun b => b ∈ μ ∨ GO G env σ b
structure Rel (S : St0) (σ : L2.St) (H : Hp) (env : En) (w : Wd) (μ : List Addr) (G : Addr → Prop) : Prop where
  wr : WRel S H μ w (GO G env σ)
  len : env.length = σ.length
  val : ∀ (i : Nat) (d : D), env[i]? = some (.val d) → ∃ v, σ[i]? = some (some v) ∧ Rep S (hide H (BB μ G env σ)) μ d v
  own : ∀ (i : Nat) (d : D), env[i]? = some (.own d) → ∃ a, σ[i]? = some (some (V.ref a)) ∧ ¬ G a ∧ Cont S (hide H (BB μ G env σ)) μ H a d
  uniq : ∀ (i j : Nat) (d e : D) (a : Addr), env[i]? = some (.own d) → env[j]? = some (.own e) → σ[i]? = some (some (V.ref a)) → σ[j]? = some (some (V.ref a)) → i = j

/-- what an expression's run does to the heap -/
structure Ext (H : Hp) (μ : List Addr) (H' : Hp) (μ' : List Addr) : Prop where
  keep : ∀ b o, H b = some o → b ∉ μ → H' b = some o
  cel : ∀ b, b ∈ μ → H' b ≠ none
  new : ∃ τ, μ' = μ ++ τ ∧ ∀ a, a ∈ τ → H a = none
theorem Ext.pre {H H' : Hp} {μ μ' : List Addr} (e : Ext H μ H' μ') : Pre μ μ' := let ⟨τ, h, _⟩ := e.new; ⟨τ, h⟩
theorem Ext.dom {H H' : Hp} {μ μ' : List Addr} (e : Ext H μ H' μ') {b : Addr} (h : H' b = none) : H b = none := by
  cases q : H b with
  | none => rfl
  | some o =>
    by_cases hb : b ∈ μ
    · exact absurd h (e.cel b hb)
    · rw [e.keep b o q hb] at h; cases h
theorem Ext.trans {H H1 H2 : Hp} {μ μ1 μ2 : List Addr} (a : Ext H μ H1 μ1) (b : Ext H1 μ1 H2 μ2) : Ext H μ H2 μ2 := by
  obtain ⟨τ, rfl, h1⟩ := a.new
  obtain ⟨ρ, rfl, h2⟩ := b.new
  refine ⟨fun c o h hc => ?_, fun c hc => b.cel c (List.mem_append_left _ hc), τ ++ ρ, by simp, fun c hc => ?_⟩
  · refine b.keep c o (a.keep c o h hc) fun hm => ?_
    rcases List.mem_append.mp hm with z | z
    · exact hc z
    · rw [h1 c z] at h; cases h
  · rcases List.mem_append.mp hc with z | z
    · exact h1 c z
    · exact a.dom (h2 c z)
theorem Ext.mem {H H' : Hp} {μ μ' : List Addr} (e : Ext H μ H' μ') {b : Addr} {o : HO} (h : H b = some o) (hb : b ∉ μ) : b ∉ μ' := fun hm => by
  obtain ⟨τ, rfl, h1⟩ := e.new
  rcases List.mem_append.mp hm with z | z
  · exact hb z
  · rw [h1 b z] at h; cases h
theorem Ext.of_same {H H' : Hp} {μ : List Addr} (h : Same H H') (hc : ∀ b, b ∈ μ → H b ≠ none) : Ext H μ H' μ :=
  ⟨fun b o e _ => h b o e, fun b hb => by
    cases q : H b with
    | none => exact absurd q (hc b hb)
    | some o => rw [h b o q]; simp, [], by simp, fun _ z => nomatch z⟩
section
variable {S : St0} {σ : L2.St} {H H' : Hp} {env : En} {w w' : Wd} {μ μ' : List Addr} {G G' : Addr → Prop}
theorem WRel.cellD (h : WRel S H μ w G) : ∀ b, b ∈ μ → H b ≠ none := fun b hb => by
  obtain ⟨n, hn, e⟩ := List.getElem_of_mem hb
  have hw : n < w.length := by rw [h.len]; exact hn
  exact (h.cont n b w[n] (by rw [List.getElem?_eq_getElem hn, e]) (List.getElem?_eq_getElem hw)).some
theorem WRel.mono (h : WRel S H μ w G) (g : ∀ b, G' b → G b) : WRel S H μ w G' :=
  ⟨h.len, h.nd, fun n a d h1 h2 => (h.cont n a d h1 h2).mono (hide_mono (fun _ _ e _ => e) fun b o _ nb z => nb (z.imp_right (g b))) (Pre.refl _) fun _ e => e, fun a ha z => h.dis a ha (g a z), fun b z => h.gd b (g b z)⟩
theorem Rel.frozen (r : Rel S σ H env w μ G) (e : Ext H μ H' μ') : Same (hide H (BB μ G env σ)) (hide H' (BB μ' G env σ)) :=
  hide_mono (fun b o h nb => e.keep b o h fun z => nb (.inl z)) fun b o h nb z => by
    rcases z with z | z
    · exact e.mem h (fun y => nb (.inl y)) z
    · exact nb (.inr z)
theorem Rel.ownD (r : Rel S σ H env w μ G) {a : Addr} (h : ownAt env σ a) : H a ≠ none := r.wr.gd a (.inr h)
theorem Rel.own_nc (r : Rel S σ H env w μ G) {a : Addr} (h : ownAt env σ a) : a ∉ μ := fun z => r.wr.dis a z (.inr h)
/-- behind a run that changed cells only -/
theorem Rel.ext (r : Rel S σ H env w μ G) (e : Ext H μ H' μ') (x : WRel S H' μ' w' (GO G env σ)) : Rel S σ H' env w' μ' G := by
  have fz := r.frozen e
  refine ⟨x, r.len, fun i d h => ?_, fun i d h => ?_, r.uniq⟩
  · obtain ⟨v, h1, h2⟩ := r.val i d h
    exact ⟨v, h1, Rep.mono fz e.pre _ _ h2⟩
  · obtain ⟨a, h1, h2, h3⟩ := r.own i d h
    exact ⟨a, h1, h2, h3.mono fz e.pre fun o q => e.keep a o q (r.own_nc ⟨i, d, h, h1⟩)⟩
/-- new objects only -/
theorem WRel.grow (h : WRel S H μ w G) (s : Same H H') : WRel S H' μ w G :=
  ⟨h.len, h.nd, fun n a d h1 h2 => (h.cont n a d h1 h2).mono (hide_mono (fun b o e _ => s b o e) fun b o _ nb => nb) (Pre.refl _) fun o e => s a o e, h.dis, fun b z q => h.gd b z (by
    cases x : H b with
    | none => rfl
    | some o => rw [s b o x] at q; cases q)⟩
theorem Rel.ext0 (r : Rel S σ H env w μ G) (s : Same H H') : Ext H μ H' μ := .of_same s r.wr.cellD
theorem Rel.grow (r : Rel S σ H env w μ G) (s : Same H H') : Rel S σ H' env w μ G := r.ext (r.ext0 s) (r.wr.grow s)
theorem Rel.mono (r : Rel S σ H env w μ G) (g : ∀ b, G' b → G b) : Rel S σ H env w μ G' := by
  have fz : Same (hide H (BB μ G env σ)) (hide H (BB μ G' env σ)) := hide_mono (fun _ _ e _ => e) fun b o _ nb z => nb (z.imp_right fun q => q.imp_left (g b))
  refine ⟨r.wr.mono fun b z => z.imp_left (g b), r.len, fun i d h => ?_, fun i d h => ?_, r.uniq⟩
  · obtain ⟨v, h1, h2⟩ := r.val i d h
    exact ⟨v, h1, Rep.mono fz (Pre.refl _) _ _ h2⟩
  · obtain ⟨a, h1, h2, h3⟩ := r.own i d h
    exact ⟨a, h1, fun z => h2 (g a z), h3.mono fz (Pre.refl _) fun o q => q⟩
end
end R
end
section
set_option Elab.async false
set_option linter.all false
set_option maxRecDepth 100000
/-! RB1: data's own ==, < and forms against the library's. -/
namespace R
open PySem PySem.Spec PyProof.Rows L2

theorem sh_all {n : Nat} {xs : List D} : sh (n + 1) (.tup xs) = xs.all (sh n) := by simp only [sh]
theorem sh_alll {n : Nat} {xs : List D} : sh (n + 1) (.lst xs) = xs.all (sh n) := by simp only [sh]
mutual
theorem eqD_eqv : ∀ (d e : D) (n m : Nat), sh n d = true → sh m e = true → eqD d e = PyData.eqv (py d) (py e)
  | .non, e, n, m, _, h => by cases e <;> (try cases m) <;> simp [sh] at h <;> simp [eqD, py, PyData.eqv]
  | .bl a, e, n, m, _, h => by cases e <;> (try cases m) <;> simp [sh] at h <;> simp [eqD, py, PyData.eqv]
  | .int a, e, n, m, _, h => by cases e <;> (try cases m) <;> simp [sh] at h <;> simp [eqD, py, PyData.eqv]
  | .str a, e, n, m, _, h => by cases e <;> (try cases m) <;> simp [sh] at h <;> simp [eqD, py, PyData.eqv]
  | .tup xs, e, n, m, g, h => by
    cases n with
    | zero => simp [sh] at g
    | succ n =>
      cases e <;> (try cases m) <;> simp [sh] at h <;> try simp [eqD, py, PyData.eqv]
      · rename_i ys m
        exact eqDs_eqv xs ys n m (by simpa [sh] using g) (by simpa using h)
  | .lst xs, e, n, m, g, h => by
    cases n with
    | zero => simp [sh] at g
    | succ n =>
      cases e <;> (try cases m) <;> simp [sh] at h <;> try simp [eqD, py, PyData.eqv]
      · rename_i ys m
        exact eqDs_eqv xs ys n m (by simpa [sh] using g) (by simpa using h)
  | .dic _ _, e, n, m, g, h => by cases n <;> simp [sh] at g
  | .fn _, e, n, m, g, h => by cases n <;> simp [sh] at g
  | .cell _, e, n, m, g, h => by cases n <;> simp [sh] at g
  | .exc _ _, e, n, m, g, h => by cases n <;> simp [sh] at g
  | .obj _ _ _, e, n, m, g, h => by cases n <;> simp [sh] at g
theorem eqDs_eqv : ∀ (ds es : List D) (n m : Nat), ds.all (sh n) = true → es.all (sh m) = true → eqDs ds es = PyData.eqvAll (pys ds) (pys es)
  | [], [], _, _, _, _ => by simp [eqDs, pys, PyData.eqvAll]
  | [], _ :: _, _, _, _, _ => by simp [eqDs, pys, PyData.eqvAll]
  | _ :: _, [], _, _, _, _ => by simp [eqDs, pys, PyData.eqvAll]
  | d :: ds, e :: es, n, m, g, h => by
    simp only [List.all_cons, Bool.and_eq_true] at g h
    simp only [eqDs, pys, PyData.eqvAll]
    rw [eqD_eqv d e n m g.1 h.1, eqDs_eqv ds es n m g.2 h.2]
end
theorem canLay_pys {n : Nat} (ih : ∀ d, sh n d = true → (py d).canLay0 = true) : ∀ ds : List D, ds.all (sh n) = true → PyData.canLayAll0 (pys ds) = true
  | [], _ => by simp [pys, PyData.canLayAll0]
  | d :: ds, h => by
    simp only [List.all_cons, Bool.and_eq_true] at h
    simp only [pys, PyData.canLayAll0, Bool.and_eq_true]
    exact ⟨ih d h.1, canLay_pys ih ds h.2⟩
theorem canLay_py : ∀ (n : Nat) (d : D), sh n d = true → (py d).canLay0 = true := fun n => by
  induction n with
  | zero => intro d h; cases d <;> simp [sh] at h <;> simp [py, PyData.canLay0] <;> exact h
  | succ n ih =>
    intro d h
    cases d with
    | tup xs => simp only [py, PyData.canLay0]; exact canLay_pys ih xs (by simpa [sh] using h)
    | lst xs => simp only [py, PyData.canLay0]; exact canLay_pys ih xs (by simpa [sh] using h)
    | _ => simp [sh] at h <;> simp [py, PyData.canLay0] <;> exact h
theorem depth_pys {n : Nat} (ih : ∀ d, sh n d = true → (py d).depth ≤ n) : ∀ ds : List D, ds.all (sh n) = true → PyData.depthAll (pys ds) ≤ n
  | [], _ => by simp [pys, PyData.depthAll]
  | d :: ds, h => by
    simp only [List.all_cons, Bool.and_eq_true] at h
    simp only [pys, PyData.depthAll]
    have := ih d h.1
    have := depth_pys ih ds h.2
    omega
theorem depth_py : ∀ (n : Nat) (d : D), sh n d = true → (py d).depth ≤ n := fun n => by
  induction n with
  | zero => intro d h; cases d <;> simp [sh] at h <;> simp [py, PyData.depth]
  | succ n ih =>
    intro d h
    cases d with
    | tup xs => simp only [py, PyData.depth]; have := depth_pys ih xs (by simpa [sh] using h); omega
    | lst xs => simp only [py, PyData.depth]; have := depth_pys ih xs (by simpa [sh] using h); omega
    | _ => simp [sh] at h <;> simp [py, PyData.depth]
theorem shaped_py {n : Nat} {d : D} (h : sh n d = true) (hn : n ≤ 64) : SeqAt.shaped (py d) = true := by
  show ((py d).canLay0 && decide ((py d).depth ≤ 64)) = true
  rw [Bool.and_eq_true]
  exact ⟨canLay_py n d h, decide_eq_true (Nat.le_trans (depth_py n d h) hn)⟩
mutual
theorem alk_alike : ∀ (d e : D) (n m : Nat), sh n d = true → sh m e = true → PySem.W.alike (py d) (py e) = alk d e
  | .non, e, n, m, _, h => by cases e <;> (try cases m) <;> simp [sh] at h <;> simp [alk, py, PySem.W.alike]
  | .bl a, e, n, m, _, h => by cases e <;> (try cases m) <;> simp [sh] at h <;> simp [alk, py, PySem.W.alike]
  | .int a, e, n, m, _, h => by cases e <;> (try cases m) <;> simp [sh] at h <;> simp [alk, py, PySem.W.alike]
  | .str a, e, n, m, _, h => by cases e <;> (try cases m) <;> simp [sh] at h <;> simp [alk, py, PySem.W.alike]
  | .tup xs, e, n, m, g, h => by
    cases n with
    | zero => simp [sh] at g
    | succ n =>
      cases e <;> (try cases m) <;> simp [sh] at h <;> try simp [alk, py, PySem.W.alike]
      · rename_i ys m
        exact alks_alike xs ys n m (by simpa [sh] using g) (by simpa using h)
  | .lst xs, e, n, m, g, h => by
    cases n with
    | zero => simp [sh] at g
    | succ n =>
      cases e <;> (try cases m) <;> simp [sh] at h <;> try simp [alk, py, PySem.W.alike]
      · rename_i ys m
        exact alks_alike xs ys n m (by simpa [sh] using g) (by simpa using h)
  | .dic _ _, e, n, m, g, h => by cases n <;> simp [sh] at g
  | .fn _, e, n, m, g, h => by cases n <;> simp [sh] at g
  | .cell _, e, n, m, g, h => by cases n <;> simp [sh] at g
  | .exc _ _, e, n, m, g, h => by cases n <;> simp [sh] at g
  | .obj _ _ _, e, n, m, g, h => by cases n <;> simp [sh] at g
theorem alks_alike : ∀ (ds es : List D) (n m : Nat), ds.all (sh n) = true → es.all (sh m) = true → PySem.W.alikeAll (pys ds) (pys es) = alks ds es
  | [], _, _, _, _, _ => by simp [alks, pys, PySem.W.alikeAll]
  | _ :: _, [], _, _, _, _ => by simp [alks, pys, PySem.W.alikeAll]
  | d :: ds, e :: es, n, m, g, h => by
    simp only [List.all_cons, Bool.and_eq_true] at g h
    simp only [alks, pys, PySem.W.alikeAll]
    rw [alk_alike d e n m g.1 h.1, alks_alike ds es n m g.2 h.2]
end
theorem b2i_lt (a b : Bool) : decide (PyProof.Rows.b2i a < PyProof.Rows.b2i b) = (!a && b) := by cases a <;> cases b <;> rfl
mutual
theorem ltD_data : ∀ (d e : D) (n m : Nat), sh n d = true → sh m e = true → alk d e = true → PySem.W.dataLt (py d) (py e) = ltD d e
  | .non, e, n, m, _, h, k => by
    cases e <;> simp [alk] at k
    simp only [py, ltD]
    rfl
  | .bl a, e, n, m, _, h, k => by
    cases e <;> simp [alk] at k
    simp only [py, ltD, PySem.W.dataLt_bool]
    exact b2i_lt _ _
  | .int a, e, n, m, _, h, k => by
    cases e <;> simp [alk] at k
    simp only [py, ltD, PySem.W.dataLt_int]
  | .str a, e, n, m, _, h, k => by
    cases e <;> simp [alk] at k
    simp only [py, ltD, PySem.W.dataLt_str]
  | .tup xs, e, n, m, g, h, k => by
    cases e <;> simp [alk] at k
    rename_i ys
    cases n with
    | zero => simp [sh] at g
    | succ n =>
      cases m with
      | zero => simp [sh] at h
      | succ m =>
        simp only [py, ltD, PySem.W.dataLt_tuple]
        exact ltDs_data xs ys n m (by simpa [sh] using g) (by simpa [sh] using h) k
  | .lst xs, e, n, m, g, h, k => by
    cases e <;> simp [alk] at k
    rename_i ys
    cases n with
    | zero => simp [sh] at g
    | succ n =>
      cases m with
      | zero => simp [sh] at h
      | succ m =>
        simp only [py, ltD, PySem.W.dataLt_list]
        exact ltDs_data xs ys n m (by simpa [sh] using g) (by simpa [sh] using h) k
  | .dic _ _, e, n, m, g, h, k => by cases n <;> simp [sh] at g
  | .fn _, e, n, m, g, h, k => by cases n <;> simp [sh] at g
  | .cell _, e, n, m, g, h, k => by cases n <;> simp [sh] at g
  | .exc _ _, e, n, m, g, h, k => by cases n <;> simp [sh] at g
  | .obj _ _ _, e, n, m, g, h, k => by cases n <;> simp [sh] at g
theorem ltDs_data : ∀ (ds es : List D) (n m : Nat), ds.all (sh n) = true → es.all (sh m) = true → alks ds es = true → PyProof.Rows.lexLt itemOrd (PySem.W.keyToksAll (pys ds)) (PySem.W.keyToksAll (pys es)) = ltDs ds es
  | [], [], _, _, _, _, _ => by simp only [ltDs, pys]; exact PyProof.Rows.lex_irrefl _
  | [], e :: es, _, _, _, _, _ => by
    simp only [ltDs, pys]
    rw [PySem.W.toks_all_cons]
    simp only [PySem.W.keyToksAll]
    rw [PyProof.Rows.lex_diff (O := itemOrd) (by simp)]
    rfl
  | d :: ds, [], _, _, _, _, _ => by
    simp only [ltDs, pys]
    rw [PySem.W.toks_all_cons]
    simp only [PySem.W.keyToksAll]
    rw [PyProof.Rows.lex_diff (O := itemOrd) (by simp)]
    rfl
  | d :: ds, e :: es, n, m, g, h, k => by
    simp only [List.all_cons, Bool.and_eq_true] at g h
    simp only [alks, Bool.and_eq_true] at k
    simp only [ltDs, pys]
    rw [PySem.W.dataLt_cons (by rw [alk_alike d e n m g.1 h.1]; exact k.1), ← eqD_eqv d e n m g.1 h.1, ltDs_data ds es n m g.2 h.2 k.2, ltD_data d e n m g.1 h.1 k.1]
end
end R
end
section
set_option Elab.async false
set_option linter.all false
set_option maxRecDepth 100000
/-! RB2: operators by values: what the library's rules say of data. -/
namespace R
open PySem PySem.Spec PyProof.Rows L2

/-- what is frozen, and what is new -/
def grow (F H H' : Hp) : Hp := fun b => match H b with | none => H' b | some _ => F b
theorem grow_old {F H H' : Hp} (hF : Same F H) : Same F (grow F H H') := fun b o e => by
  unfold grow
  rw [hF b o e]
  exact e
theorem grow_new {F H H' : Hp} {b : Addr} (h : H b = none) : grow F H H' b = H' b := by
  unfold grow
  rw [h]
theorem grow_le {F H H' : Hp} (hF : Same F H) (hH : Same H H') : Same (grow F H H') H' := fun b o e => by
  unfold grow at e
  cases q : H b with
  | none => rw [q] at e; exact e
  | some u => rw [q] at e; exact hH b o (hF b o e)
theorem same_new {H : Hp} {p : Addr} {o : HO} (h : H p = none) : Same H (upd H p o) := fun b x e => by
  rw [upd_ne (ne_of_none e h)]
  exact e

/-- the first look at data: the container itself by H, its items by F -/
def Sv (S : St0) (F H : Hp) (μ : List Addr) : D → V → Prop
  | .lst ds, v => ∃ a vs, v = .ref a ∧ SqL S.K H a vs ∧ Reps S F μ ds vs
  | .dic ks ws, v => ∃ a o kv wv, v = .ref a ∧ H a = some (dxo a o) ∧ (a == sysModules) = false ∧ DObj S.w o (ks.map kof) kv wv ∧ ks.all (ky 8) = true ∧ Reps S F μ ks kv ∧ Reps S F μ ws wv
  | d, v => Rep S F μ d v
/-- an operation's result -/
def OV (S : St0) (F H H' : Hp) (μ : List Addr) : Kd × D → V → Prop
  | (.val, d), v => Rep S (grow F H H') μ d v
  | (.own, d), v => ∃ a, v = .ref a ∧ H a = none ∧ Cont S (hide (grow F H H') (fun b => b = a)) μ H' a d
  | _, _ => False
section
variable {S : St0} {F H H' : Hp} {μ : List Addr}
theorem Rep.sv (hF : Same F H) {d : D} {v : V} (h : Rep S F μ d v) : Sv S F H μ d v := by
  cases d with
  | lst ds =>
    simp only [Rep] at h
    obtain ⟨a, vs, e, hs, hr⟩ := h
    exact ⟨a, vs, e, Same.sqL hF hs, hr⟩
  | dic ks ws =>
    simp only [Rep] at h
    obtain ⟨a, o, kv, wv, e, hs, hr⟩ := h
    exact ⟨a, o, kv, wv, e, hF _ _ hs, hr⟩
  | _ => exact h
theorem Cont.sv {a : Addr} {d : D} (h : Cont S F μ H a d) : Sv S F H μ d (.ref a) := by
  cases d with
  | lst ds =>
    obtain ⟨vs, h1, h2⟩ := h
    exact ⟨a, vs, rfl, .inl (Rd.of h1), h2⟩
  | dic ks ws =>
    obtain ⟨o, kv, wv, h1, h2⟩ := h
    exact ⟨a, o, kv, wv, rfl, h1, h2⟩
  | _ => exact h.elim
theorem Sv.mono {F' : Hp} {μ' : List Addr} (hF : Same F F') (hH : Same H H') (hμ : Pre μ μ') {d : D} {v : V} (h : Sv S F H μ d v) : Sv S F' H' μ' d v := by
  cases d with
  | lst ds =>
    obtain ⟨a, vs, e, hs, hr⟩ := h
    exact ⟨a, vs, e, Same.sqL hH hs, Reps.mono hF hμ _ _ hr⟩
  | dic ks ws =>
    obtain ⟨a, o, kv, wv, e, hs, h1, h2, h3, h4, h5⟩ := h
    exact ⟨a, o, kv, wv, e, hH _ _ hs, h1, h2, h3, Reps.mono hF hμ _ _ h4, Reps.mono hF hμ _ _ h5⟩
  | _ => exact Rep.mono hF hμ _ _ h
theorem Sv.dp (hF : Same F H) {n : Nat} {d : D} {v : V} (e : sh n d = true) (h : Sv S F H μ d v) : Dp S.K H v (py d) := by
  cases d with
  | lst ds =>
    obtain ⟨a, vs, rfl, hs, hr⟩ := h
    cases n with
    | zero => simp [sh] at e
    | succ n =>
      simp only [py]
      exact .lst hs (Reps.dps_of (Rep.dp hF n) ds vs (by simpa [sh] using e) hr)
  | dic ks ws => cases n <;> simp [sh] at e
  | _ => exact Rep.dp (μ := μ) hF n _ v e h
theorem OV.int {i : Int} : OV S F H H' μ (.val, .int i) (.int i) := by simp only [OV, Rep]
theorem OV.bl {b : Bool} : OV S F H H' μ (.val, .bl b) (.bl b) := by simp only [OV, Rep]
theorem OV.str {b : Str} : OV S F H H' μ (.val, .str b) (.str b) := by simp only [OV, Rep]
theorem OV.tup (hF : Same F H) {p : Addr} {ds : List D} {vs : List V} (hp : H p = none) (r : Reps S F μ ds vs) : OV S F H (upd H p (.tup vs)) μ (.val, .tup ds) (.ref p) := by
  simp only [OV, Rep]
  exact ⟨p, vs, rfl, .of (by rw [grow_new hp, upd_same]), Reps.mono (grow_old hF) (Pre.refl _) _ _ r⟩
theorem hide_grow (hF : Same F H) {p : Addr} (hp : H p = none) : Same F (hide (grow F H H') (fun b => b = p)) := fun b o e =>
  hide_of (grow_old hF b o e) (ne_of_none (hF b o e) hp)
theorem OV.lst (hF : Same F H) {p : Addr} {ds : List D} {vs : List V} (hp : H p = none) (r : Reps S F μ ds vs) : OV S F H (upd H p (.lst vs)) μ (.own, .lst ds) (.ref p) := by
  simp only [OV]
  exact ⟨p, rfl, hp, vs, upd_same, Reps.mono (hide_grow hF hp) (Pre.refl _) _ _ r⟩
theorem OV.old (hF : Same F H) {d : D} {v : V} (h : Rep S F μ d v) : OV S F H H' μ (.val, d) v := by
  simp only [OV]
  exact Rep.mono (grow_old hF) (Pre.refl _) _ _ h
end

/-- a binary operation of data, as the layer reads one -/
def r2 (S : St0) (g : D → D → Option (Kd × D)) : R2 := fun x y H Q => ∃ F μ dx dy k, Same F H ∧ Sv S F H μ dx x ∧ Sv S F H μ dy y ∧ g dx dy = some k ∧ ∀ v H', Same H H' → OV S F H H' μ k v → Q v H'
/-- a built-in of one argument -/
def r1 (S : St0) (g : D → Option (Kd × D)) : List V → Hp → VK → Prop := fun xs H Q => ∃ F μ d x k, xs = [x] ∧ Same F H ∧ Sv S F H μ d x ∧ g d = some k ∧ ∀ v H', Same H H' → OV S F H H' μ k v → Q v H'

/-- the static part is the context's own -/
structure Agree (S : St0) (X : Cx) : Prop where
  P : S.P = X.prog
  w : S.w = X.w
  K : S.K = X.K
section
variable {S : St0} {X : Cx}
theorem szOk_le {n : Nat} (h : szOk n = true) : n ≤ sizeLine := by
  rw [sizeLine_eq]
  exact of_decide_eq_true h
theorem intV {F H : Hp} {μ : List Addr} {i : Int} {x : V} (h : Sv S F H μ (.int i) x) : x = .int i := by
  simpa only [Sv, Rep] using h
theorem blV {F H : Hp} {μ : List Addr} {i : Bool} {x : V} (h : Sv S F H μ (.bl i) x) : x = .bl i := by
  simpa only [Sv, Rep] using h
theorem strV {F H : Hp} {μ : List Addr} {i : Str} {x : V} (h : Sv S F H μ (.str i) x) : x = .str i := by
  simpa only [Sv, Rep] using h
theorem nonV {F H : Hp} {μ : List Addr} {x : V} (h : Sv S F H μ .non x) : x = .non := by
  simpa only [Sv, Rep] using h
theorem tupV {F H : Hp} {μ : List Addr} {ds : List D} {x : V} (hF : Same F H) (h : Sv S F H μ (.tup ds) x) : ∃ a vs, x = .ref a ∧ SqT S.K H a vs ∧ Reps S F μ ds vs := by
  simp only [Sv, Rep] at h
  obtain ⟨a, vs, e, hs, hr⟩ := h
  exact ⟨a, vs, e, Same.sqT hF hs, hr⟩

theorem cat_lists {pins : List (Addr × Obj)} {s : Shared} {σ : L2.St} {H : Hp} {a b : Addr} {vs us : List V} {v u : Value} {Q : VK} (I : Inv X pins σ H s) (ha : SqL X.K H a vs) (hb : SqL X.K H b us) (hz : vs.length + us.length ≤ sizeLine)
    (rx : RelV (.ref a) v) (ry : RelV (.ref b) u) (q : ∀ p, H p = none → Q (.ref p) (upd H p (.lst (vs ++ us)))) : wpAny (model X.prog X.w) X.A (binaryOp .Add v u) (EP X pins σ Q) X.xe s := by
  cases rx
  cases ry
  obtain ⟨its, r, ⟨⟨c1, d1, t1, l1⟩, n1, ho, hc, hd, hs⟩, _⟩ := I.list ha
  obtain ⟨its2, r2, ⟨⟨c2, d2, t2, l2⟩, n2, ho2, hc2, hd2, hs2⟩, _⟩ := I.list hb
  dsimp only at hc hd hs hc2 hd2 hs2
  subst hc hd hs hc2 hd2 hs2
  have z1 := r.length
  have z2 := r2.length
  have joined : its.toArray ++ its2.toArray = (its ++ its2).toArray := by simp
  refine concat_meets ⟨_, ho, rfl⟩ ⟨_, ho2, rfl⟩ noFill_list_add seq_list_add PySem.F.slot_list_add PySem.F.entry_list_add (PySem.F.args_list_add_2 _ _) (list_addW a b its.toArray its2.toArray n1 n2 none none l1 l2 (by rw [List.size_toArray, List.size_toArray]; omega)) ⟨ho, ho2, ?_⟩
  rw [joined]
  exact ⟨.ref _, _, I.lnew (t' := s.toks) (r.append r2) (by rw [List.length_append]; omega), rfl, q _ I.fresh⟩
theorem Reps.rep {F : Hp} {μ : List Addr} {ds : List D} {vs : List V} (h : Reps S F μ ds vs) : ∀ n : Nat, Reps S F μ (List.replicate n ds).flatten (List.replicate n vs).flatten
  | 0 => Reps.nil
  | n + 1 => by
    rw [List.replicate_succ, List.replicate_succ, List.flatten_cons, List.flatten_cons]
    exact h.append (Reps.rep h n)
theorem op_addD (A : Agree S X) : OpR X (binaryOp .Add) (r2 S (binD .add)) := by
  intro pins s σ H x y v u Q I rx ry h
  obtain ⟨F, μ, dx, dy, k, hF, hx, hy, e, q⟩ := h
  cases dx <;> cases dy <;> simp [binD] at e
  · subst e
    rw [intV hx] at rx
    rw [intV hy] at ry
    exact op_add pins s σ H _ _ v u Q I rx ry ⟨_, _, rfl, rfl, q _ H (Same.refl H) OV.int⟩
  · obtain ⟨hz, e⟩ := e
    subst e
    rw [strV hx] at rx
    rw [strV hy] at ry
    exact op_add_str pins s σ H _ _ v u Q I rx ry ⟨_, _, rfl, rfl, szOk_le hz, q _ H (Same.refl H) OV.str⟩
  · obtain ⟨hz, e⟩ := e
    subst e
    obtain ⟨a, vs, rfl, ha, hvs⟩ := tupV hF hx
    obtain ⟨b, us, rfl, hb, hus⟩ := tupV hF hy
    rw [A.K] at ha hb
    refine op_catA pins s σ H _ _ v u Q I rx ry ⟨a, b, vs, us, rfl, rfl, ha, hb, ?_, fun e => ?_, fun e1 e2 => ?_, fun _ _ p hp => ?_⟩
    · rw [hvs.length, hus.length]; exact szOk_le hz
    · subst e
      have : ∀ {xs : List D}, Reps S F μ xs [] → xs = [] := fun {xs} r => by
        have := r.length
        exact List.eq_nil_of_length_eq_zero (by simpa using this.symm)
      rw [this hvs, List.nil_append] at q
      exact q _ H (Same.refl H) (OV.old hF (by simpa only [Sv] using hy))
    · subst e2
      have : ∀ {xs : List D}, Reps S F μ xs [] → xs = [] := fun {xs} r => by
        have := r.length
        exact List.eq_nil_of_length_eq_zero (by simpa using this.symm)
      rw [this hus, List.append_nil] at q
      exact q _ H (Same.refl H) (OV.old hF (by simpa only [Sv] using hx))
    · exact q _ _ (same_new hp) (OV.tup hF hp (hvs.append hus))
  · obtain ⟨hz, e⟩ := e
    subst e
    obtain ⟨a, vs, rfl, ha, hvs⟩ := hx
    obtain ⟨b, us, rfl, hb, hus⟩ := hy
    rw [A.K] at ha hb
    refine cat_lists I ha hb ?_ rx ry fun p hp => ?_
    · rw [hvs.length, hus.length]; exact szOk_le hz
    · exact q _ _ (same_new hp) (OV.lst hF hp (hvs.append hus))
theorem op_subD (A : Agree S X) : OpR X (binaryOp .Sub) (r2 S (binD .sub)) := by
  intro pins s σ H x y v u Q I rx ry h
  obtain ⟨F, μ, dx, dy, k, hF, hx, hy, e, q⟩ := h
  cases dx <;> cases dy <;> simp [binD] at e
  subst e
  rw [intV hx] at rx
  rw [intV hy] at ry
  exact op_sub pins s σ H _ _ v u Q I rx ry ⟨_, _, rfl, rfl, q _ H (Same.refl H) OV.int⟩
theorem op_mulD (A : Agree S X) : OpR X (binaryOp .Mult) (r2 S (binD .mul)) := by
  intro pins s σ H x y v u Q I rx ry h
  obtain ⟨F, μ, dx, dy, k, hF, hx, hy, e, q⟩ := h
  cases dx <;> cases dy <;> simp [binD] at e
  · obtain ⟨hz, e⟩ := e
    subst e
    rw [intV hx] at rx
    rw [intV hy] at ry
    refine op_mul pins s σ H _ _ v u Q I rx ry ⟨_, _, rfl, rfl, ?_, q _ H (Same.refl H) OV.int⟩
    rcases hz with hz | hz
    · exact .inl (by simpa [small] using hz)
    · exact .inr (by simpa [small] using hz)
theorem op_fdivD (A : Agree S X) : OpR X (binaryOp .FloorDiv) (r2 S (binD .fdiv)) := by
  intro pins s σ H x y v u Q I rx ry h
  obtain ⟨F, μ, dx, dy, k, hF, hx, hy, e, q⟩ := h
  cases dx <;> cases dy <;> simp [binD] at e
  obtain ⟨hz, e⟩ := e
  subst e
  rw [intV hx] at rx
  rw [intV hy] at ry
  exact op_fdiv pins s σ H _ _ v u Q I rx ry ⟨_, _, rfl, rfl, hz, q _ H (Same.refl H) OV.int⟩
theorem op_modD (A : Agree S X) : OpR X (binaryOp .Mod) (r2 S (binD .mod)) := by
  intro pins s σ H x y v u Q I rx ry h
  obtain ⟨F, μ, dx, dy, k, hF, hx, hy, e, q⟩ := h
  cases dx <;> cases dy <;> simp [binD] at e
  obtain ⟨hz, e⟩ := e
  subst e
  rw [intV hx] at rx
  rw [intV hy] at ry
  exact op_mod pins s σ H _ _ v u Q I rx ry ⟨_, _, rfl, rfl, hz, q _ H (Same.refl H) OV.int⟩
theorem op_powD (A : Agree S X) : OpR X (binaryOp .Pow) (r2 S (binD .pow)) := by
  intro pins s σ H x y v u Q I rx ry h
  obtain ⟨F, μ, dx, dy, k, hF, hx, hy, e, q⟩ := h
  cases dx <;> cases dy <;> simp [binD] at e
  obtain ⟨hz, e⟩ := e
  subst e
  rw [intV hx] at rx
  rw [intV hy] at ry
  exact op_pow pins s σ H _ _ v u Q I rx ry ⟨_, _, rfl, rfl, ⟨hz.1, by omega, hz.2.2⟩, q _ H (Same.refl H) OV.int⟩
def bop : BOp → Operator
  | .add => .Add | .sub => .Sub | .mul => .Mult | .fdiv => .FloorDiv | .mod => .Mod | .pow => .Pow
theorem op_binD (A : Agree S X) (o : BOp) : OpR X (binaryOp (bop o)) (r2 S (binD o)) := by
  cases o with
  | add => exact op_addD A
  | sub => exact op_subD A
  | mul => exact op_mulD A
  | fdiv => exact op_fdivD A
  | mod => exact op_modD A
  | pow => exact op_powD A

/-! ### comparisons -/
def r2b (S : St0) (g : D → D → Option Bool) : R2 := fun x y H Q => ∃ F μ dx dy k, Same F H ∧ Sv S F H μ dx x ∧ Sv S F H μ dy y ∧ g dx dy = some k ∧ Q (.bl k) H
theorem eqOk_both {d e : D} (h : eqOk d e = true) : sh 8 d = true ∧ sh 8 e = true := by simpa [eqOk] using h
theorem op_eqDD (A : Agree S X) (hu : X.A.units + 65 < cLine) : OpR X (compareOp .Eq) (r2b S (cmpD .eq)) := by
  intro pins s σ H x y v u Q I rx ry h
  obtain ⟨F, μ, dx, dy, k, hF, hx, hy, e, q⟩ := h
  simp only [cmpD] at e
  split at e
  · rename_i hz
    obtain ⟨h1, h2⟩ := eqOk_both hz
    cases e
    have p1 := hx.dp hF h1
    have p2 := hy.dp hF h2
    rw [A.K] at p1 p2
    refine op_eqD (by omega) pins s σ H x y v u Q I rx ry ⟨_, _, p1, p2, shaped_py h1 (by decide), shaped_py h2 (by decide), ?_⟩
    rw [← eqD_eqv dx dy 8 8 h1 h2]
    exact q
  · cases e
theorem op_neDD (A : Agree S X) (hu : X.A.units + 65 < cLine) : OpR X (compareOp .NotEq) (r2b S (cmpD .ne)) := by
  intro pins s σ H x y v u Q I rx ry h
  obtain ⟨F, μ, dx, dy, k, hF, hx, hy, e, q⟩ := h
  simp only [cmpD] at e
  split at e
  · rename_i hz
    obtain ⟨h1, h2⟩ := eqOk_both hz
    cases e
    have p1 := hx.dp hF h1
    have p2 := hy.dp hF h2
    rw [A.K] at p1 p2
    refine op_neD (by omega) pins s σ H x y v u Q I rx ry ⟨_, _, p1, p2, shaped_py h1 (by decide), shaped_py h2 (by decide), ?_⟩
    rw [← eqD_eqv dx dy 8 8 h1 h2]
    exact q
  · cases e
theorem op_ltDD (A : Agree S X) (hu : X.A.units + 65 < cLine) : OpR X (compareOp .Lt) (r2b S (cmpD .lt)) := by
  intro pins s σ H x y v u Q I rx ry h
  obtain ⟨F, μ, dx, dy, k, hF, hx, hy, e, q⟩ := h
  cases dx <;> cases dy <;> simp [cmpD] at e
  · subst e
    rw [intV hx] at rx
    rw [intV hy] at ry
    exact op_lt pins s σ H _ _ v u Q I rx ry ⟨_, _, rfl, rfl, q⟩
  · rename_i xs ys
    obtain ⟨⟨hz, hk⟩, e⟩ := e
    subst e
    obtain ⟨h1, h2⟩ := eqOk_both hz
    have p1 := hx.dp hF h1
    have p2 := hy.dp hF h2
    rw [A.K] at p1 p2
    obtain ⟨as, r1⟩ := Dp.reads I _ _ v p1 rx
    obtain ⟨bs, r2⟩ := Dp.reads I _ _ u p2 ry
    have hal : PySem.W.alike (py (.tup xs)) (py (.tup ys)) = true := by
      rw [alk_alike _ _ 8 8 h1 h2]
      simpa only [alk] using hk
    have hd1 := depth_py 8 _ h1
    have z := PySem.W.rcLt_alike (py (.tup xs)) (py (.tup ys)) X.A s v u as bs r1 r2 hal (by simp [py]) (by omega)
    rw [ltD_data _ _ 8 8 h1 h2 (by simpa only [alk] using hk)] at z
    refine z X.prog X.w X.xe _ ⟨.bl _, H, I, rfl, ?_⟩
    simpa only [ltD] using q
theorem op_leDD (A : Agree S X) : OpR X (compareOp .LtE) (r2b S (cmpD .le)) := by
  intro pins s σ H x y v u Q I rx ry h
  obtain ⟨F, μ, dx, dy, k, hF, hx, hy, e, q⟩ := h
  cases dx <;> cases dy <;> simp [cmpD] at e
  subst e
  rw [intV hx] at rx
  rw [intV hy] at ry
  exact op_le pins s σ H _ _ v u Q I rx ry ⟨_, _, rfl, rfl, q⟩
theorem op_gtDD (A : Agree S X) : OpR X (compareOp .Gt) (r2b S (cmpD .gt)) := by
  intro pins s σ H x y v u Q I rx ry h
  obtain ⟨F, μ, dx, dy, k, hF, hx, hy, e, q⟩ := h
  cases dx <;> cases dy <;> simp [cmpD] at e
  subst e
  rw [intV hx] at rx
  rw [intV hy] at ry
  exact op_gt pins s σ H _ _ v u Q I rx ry ⟨_, _, rfl, rfl, q⟩
theorem op_geDD (A : Agree S X) : OpR X (compareOp .GtE) (r2b S (cmpD .ge)) := by
  intro pins s σ H x y v u Q I rx ry h
  obtain ⟨F, μ, dx, dy, k, hF, hx, hy, e, q⟩ := h
  cases dx <;> cases dy <;> simp [cmpD] at e
  subst e
  rw [intV hx] at rx
  rw [intV hy] at ry
  exact op_ge pins s σ H _ _ v u Q I rx ry ⟨_, _, rfl, rfl, q⟩
/-- is it None? -/
theorem sv_non {F H : Hp} {μ : List Addr} (hf : ∀ f, S.fnv f ≠ .non) {d : D} {x : V} (h : Sv S F H μ d x) : decide (x = .non) = isNonD d := by
  cases d with
  | non => rw [nonV h]; rfl
  | bl b => rw [blV h]; rfl
  | int b => rw [intV h]; rfl
  | str b => rw [strV h]; rfl
  | tup ds =>
    simp only [Sv, Rep] at h
    obtain ⟨a, vs, rfl, _⟩ := h
    rfl
  | lst ds =>
    obtain ⟨a, vs, rfl, _⟩ := h
    rfl
  | dic ks ws =>
    obtain ⟨a, o, kv, wv, rfl, _⟩ := h
    rfl
  | fn f =>
    simp only [Sv, Rep] at h
    subst h
    exact decide_eq_false (hf f)
  | cell n =>
    simp only [Sv, Rep] at h
    obtain ⟨a, _, rfl⟩ := h
    rfl
  | exc c p =>
    cases p with
    | nil =>
      simp only [Sv, Rep] at h
      obtain ⟨a, rfl, _⟩ := h
      rfl
    | cons _ _ => simp only [Sv, Rep] at h
  | obj c n v => simp only [Sv, Rep] at h
theorem op_isDD (A : Agree S X) (hf : ∀ f, S.fnv f ≠ .non) : OpR X (compareOp .Is) (r2b S (cmpD .is)) := by
  intro pins s σ H x y v u Q I rx ry h
  obtain ⟨F, μ, dx, dy, k, hF, hx, hy, e, q⟩ := h
  cases dy with
  | non =>
    have e' : isNonD dx = k := by
      cases dx <;> simpa [cmpD] using e
    rw [nonV hy] at ry
    refine op_isN pins s σ H x _ v u Q I rx ry ⟨rfl, ?_⟩
    rw [sv_non hf hx, e']
    exact q
  | bl b =>
    cases dx <;> simp [cmpD] at e
    subst e
    rw [blV hx] at rx
    rw [blV hy] at ry
    refine op_is_bl pins s σ H _ _ v u Q I rx ry ⟨_, _, rfl, rfl, ?_⟩
    rw [show decide (_ = b) = (_ == b) from (Bool.beq_eq_decide_eq _ _).symm]
    exact q
  | _ => cases dx <;> simp [cmpD] at e
theorem op_isnotDD (A : Agree S X) (hf : ∀ f, S.fnv f ≠ .non) : OpR X (compareOp .IsNot) (r2b S (cmpD .isnot)) := by
  intro pins s σ H x y v u Q I rx ry h
  obtain ⟨F, μ, dx, dy, k, hF, hx, hy, e, q⟩ := h
  cases dy with
  | non =>
    have e' : (!isNonD dx) = k := by
      cases dx <;> simpa [cmpD] using e
    rw [nonV hy] at ry
    refine op_notN pins s σ H x _ v u Q I rx ry ⟨rfl, ?_⟩
    rw [sv_non hf hx, e']
    exact q
  | bl b =>
    cases dx <;> simp only [cmpD, Option.some.injEq, reduceCtorEq] at e
    subst e
    rw [blV hx] at rx
    rw [blV hy] at ry
    refine op_isnot_bl pins s σ H _ _ v u Q I rx ry ⟨_, _, rfl, rfl, ?_⟩
    rw [show decide (_ = b) = (_ == b) from (Bool.beq_eq_decide_eq _ _).symm]
    exact q
  | _ => cases dx <;> simp [cmpD] at e
end
end R
end
section
set_option Elab.async false
set_option linter.all false
set_option maxRecDepth 100000
/-! RB3: dicts keyed by tuples: membership, look-up, store, pop. -/
namespace R
open PySem PySem.Spec PyProof.Rows L2

mutual
theorem eqD_kof : ∀ (d e : D) (n m : Nat), ky n d = true → ky m e = true → eqD d e = decide (kof d = kof e)
  | .non, e, n, m, _, h => by cases e <;> (try cases m) <;> simp [ky] at h <;> simp [eqD, kof]
  | .bl a, e, n, m, _, h => by cases e <;> (try cases m) <;> simp [ky] at h <;> simp [eqD, kof] <;> cases a <;> simp <;> first | rfl | (rw [Bool.eq_iff_iff]; simp) | (rename_i b; cases b <;> simp)
  | .int a, e, n, m, _, h => by cases e <;> (try cases m) <;> simp [ky] at h <;> simp [eqD, kof] <;> (try rename_i b; first | rfl | (rw [Bool.eq_iff_iff]; simp))
  | .str a, e, n, m, _, h => by cases e <;> (try cases m) <;> simp [ky] at h <;> simp [eqD, kof] <;> (try rename_i b; first | rfl | (rw [Bool.eq_iff_iff]; simp))
  | .tup xs, e, n, m, g, h => by
    cases n with
    | zero => simp [ky] at g
    | succ n =>
      cases e <;> (try cases m) <;> simp [ky] at h <;> try simp [eqD, kof]
      · rename_i ys m
        rw [eqDs_kofs xs ys n m (by simpa [ky] using g) (by simpa using h)]
  | .lst _, e, n, m, g, h => by cases n <;> simp [ky] at g
  | .dic _ _, e, n, m, g, h => by cases n <;> simp [ky] at g
  | .fn _, e, n, m, g, h => by cases n <;> simp [ky] at g
  | .cell _, e, n, m, g, h => by cases n <;> simp [ky] at g
  | .exc _ _, e, n, m, g, h => by cases n <;> simp [ky] at g
  | .obj _ _ _, e, n, m, g, h => by cases n <;> simp [ky] at g
theorem eqDs_kofs : ∀ (ds es : List D) (n m : Nat), ds.all (ky n) = true → es.all (ky m) = true → eqDs ds es = decide (kofs ds = kofs es)
  | [], [], _, _, _, _ => by simp [eqDs, kofs]
  | [], _ :: _, _, _, _, _ => by simp [eqDs, kofs]
  | _ :: _, [], _, _, _, _ => by simp [eqDs, kofs]
  | d :: ds, e :: es, n, m, g, h => by
    simp only [List.all_cons, Bool.and_eq_true] at g h
    simp only [eqDs, kofs, List.cons.injEq]
    rw [eqD_kof d e n m g.1 h.1, eqDs_kofs ds es n m g.2 h.2]
    exact (Bool.decide_and _ _).symm
end
theorem depth_kofs {n : Nat} (ih : ∀ d, ky n d = true → (kof d).depth ≤ n) : ∀ ds : List D, ds.all (ky n) = true → NestedKey.depthAll (kofs ds) ≤ n
  | [], _ => by simp [kofs, NestedKey.depthAll]
  | d :: ds, h => by
    simp only [List.all_cons, Bool.and_eq_true] at h
    simp only [kofs, NestedKey.depthAll]
    have := ih d h.1
    have := depth_kofs ih ds h.2
    omega
theorem depth_kof : ∀ (n : Nat) (d : D), ky n d = true → (kof d).depth ≤ n := fun n => by
  induction n with
  | zero => intro d h; cases d <;> simp [ky] at h <;> simp [kof, NestedKey.depth]
  | succ n ih =>
    intro d h
    cases d with
    | tup xs => simp only [kof, NestedKey.depth]; have := depth_kofs ih xs (by simpa [ky] using h); omega
    | _ => simp [ky] at h <;> simp [kof, NestedKey.depth]
section
variable {S : St0} {X : Cx}
theorem keys_is {F H : Hp} {μ : List Addr} {pins : List (Addr × Obj)} {s : Shared} {σ : L2.St} {n : Nat} (I : Inv X pins σ H s) (ih : ∀ d v u, ky n d = true → Rep S F μ d v → RelV v u → NestedIs s.heap (kof d) u) :
    ∀ (ds : List D) (vs : List V) (us : List Value), ds.all (ky n) = true → Reps S F μ ds vs → Vals vs us → NestedAll s.heap (kofs ds) us
  | [], vs, us, _, h, r => by
    rw [h.inv0] at r
    cases r
    simp only [kofs]
    exact .nil
  | d :: ds, vs, us, e, h, r => by
    obtain ⟨v, t, rfl, h1, h2⟩ := h.inv
    simp only [List.all_cons, Bool.and_eq_true] at e
    cases r with
    | cons r1 r2 =>
      simp only [kofs]
      exact .cons (ih d v _ e.1 h1 r1) (keys_is I ih ds t _ e.2 h2 r2)
theorem key_is {F H : Hp} {μ : List Addr} {pins : List (Addr × Obj)} {s : Shared} {σ : L2.St} (A : Agree S X) (hF : Same F H) (I : Inv X pins σ H s) : ∀ (n : Nat) (d : D) (v : V) (u : Value), ky n d = true → Rep S F μ d v → RelV v u → NestedIs s.heap (kof d) u := fun n => by
  have flat : ∀ (d : D) (v : V) (u : Value), ky 0 d = true → Rep S F μ d v → RelV v u → NestedIs s.heap (kof d) u := fun d v u e h r => by
    cases d <;> simp [ky] at e <;> simp only [Rep] at h <;> subst h <;> simp only [kof]
    · cases r; exact .none
    · cases r; exact .bool rfl
    · obtain ⟨t, rfl⟩ := r; exact .int _ t
    · obtain ⟨t, rfl⟩ := r; exact .text _ t
  induction n with
  | zero => exact flat
  | succ n ih =>
    intro d v u e h r
    cases d with
    | tup ds =>
      simp only [Rep] at h
      obtain ⟨a, vs, rfl, hs, hr⟩ := h
      cases r
      have hs' := Same.sqT hF hs
      rw [A.K] at hs'
      obtain ⟨its, rv, ⟨o, ho, hc, k, hd⟩, _⟩ := I.tuple hs'
      simp only [kof]
      exact .tup ho hc hd (by simpa using keys_is I ih ds vs its (by simpa [ky] using e) hr rv)
    | _ => exact flat _ v u (by simpa [ky] using e) h r
theorem isKey_ky {d : D} (h : isKey d = true) : ∃ xs, d = .tup xs ∧ ky 8 d = true := by
  cases d with
  | tup xs => exact ⟨xs, rfl, h⟩
  | _ => simp [isKey] at h
theorem isKey_eqD {d e : D} (h : isKey d = true) (g : isKey e = true) : eqD d e = decide (kof d = kof e) := by
  obtain ⟨_, _, h1⟩ := isKey_ky h
  obtain ⟨_, _, h2⟩ := isKey_ky g
  exact eqD_kof d e 8 8 h1 h2
theorem key_ref {F : Hp} {μ : List Addr} {d : D} {v : V} (h : isKey d = true) (r : Rep S F μ d v) : ∃ a, v = .ref a := by
  obtain ⟨xs, rfl, _⟩ := isKey_ky h
  simp only [Rep] at r
  obtain ⟨a, vs, e, _⟩ := r
  exact ⟨a, e⟩

/-- a dict's entries, side by side with the data -/
inductive DX : List (NestedKey × Addr × Value) → List D → List V → List D → List V → Prop
  | nil : DX [] [] [] [] []
  | cons {xs ks kv ws wv k b u w y} : RelV y u → DX xs ks kv ws wv → DX ((kof k, b, u) :: xs) (k :: ks) (.ref b :: kv) (w :: ws) (y :: wv)
theorem DX.keys {xs ks kv ws wv} (h : DX xs ks kv ws wv) : xs.map (·.1) = ks.map kof := by
  induction h with
  | nil => rfl
  | cons r _ ih => simp only [List.map_cons, ih]
theorem DX.len {xs ks kv ws wv} (h : DX xs ks kv ws wv) : xs.length = ks.length ∧ kv.length = ks.length ∧ ws.length = ks.length ∧ wv.length = ks.length := by
  induction h with
  | nil => exact ⟨rfl, rfl, rfl, rfl⟩
  | cons r _ ih => simp only [List.length_cons]; omega
theorem DX.of_obj {F : Hp} {μ : List Addr} {w : World} : ∀ {ks : List D} {kv : List V} {ws : List D} {wv : List V} {es : List DictEntry}, ks.all isKey = true → Reps S F μ ks kv → Reps S F μ ws wv → es.length = ks.length → ws.length = ks.length →
    (∀ (i : Nat) (e : DictEntry), es[i]? = some e → ∃ k x y, (ks.map kof)[i]? = some k ∧ kv[i]? = some x ∧ wv[i]? = some y ∧ e.hash = NestedKey.hash w k ∧ RelV x e.key ∧ RelV y e.val) →
    ∃ xs, DX xs ks kv ws wv ∧ ∀ P, es = xs.map (entryOfKey (nestedKind P w))
  | [], kv, ws, wv, es, _, hk, hw, h1, h2, _ => by
    have e1 : es = [] := List.eq_nil_of_length_eq_zero h1
    have e2 : ws = [] := List.eq_nil_of_length_eq_zero h2
    subst e1 e2
    rw [hk.inv0, hw.inv0]
    exact ⟨[], .nil, fun _ => rfl⟩
  | k :: ks, kv, [], wv, es, _, hk, hw, h1, h2, _ => by simp at h2
  | k :: ks, kv, w1 :: ws, wv, [], _, hk, hw, h1, h2, _ => by simp at h1
  | k :: ks, kv, w1 :: ws, wv, e :: es, hp, hk, hw, h1, h2, h => by
    obtain ⟨x, kr, rfl, hk1, hk2⟩ := hk.inv
    obtain ⟨y, wr, rfl, hw1, hw2⟩ := hw.inv
    simp only [List.all_cons, Bool.and_eq_true] at hp
    obtain ⟨xs, d, he⟩ := DX.of_obj hp.2 hk2 hw2 (by simpa using h1) (by simpa using h2) fun i e' q => by
      have := h (i + 1) e' (by simpa using q)
      simpa using this
    obtain ⟨kk, x', y', a1, a2, a3, a4, a5, a6⟩ := h 0 e rfl
    simp only [List.map_cons, List.getElem?_cons_zero, Option.some.injEq] at a1 a2 a3
    subst a1 a2 a3
    obtain ⟨b, rfl⟩ := key_ref hp.1 hk1
    have a5' : e.key = Value.ref b := a5
    refine ⟨(kof k, b, e.val) :: xs, .cons a6 d, fun P => ?_⟩
    rw [List.map_cons, ← he P]
    congr 1
    obtain ⟨eh, ek, ev⟩ := e
    simp only at a4 a5'
    subst a5'
    rw [a4]
    rfl
theorem DX.find {xs ks kv ws wv} (h : DX xs ks kv ws wv) (hp : ks.all isKey = true) {d : D} (hd : isKey d = true) : ∀ {w : D}, ((ks.zip ws).find? (fun p => eqD p.1 d)).map (·.2) = some w → ∃ p y, atKey xs (kof d) = some p ∧ RelV y p.2 ∧ ∃ i : Nat, ws[i]? = some w ∧ wv[i]? = some y := by
  induction h with
  | nil => intro w e; simp at e
  | @cons xs ks kv ws wv k b u w y r t ih =>
    intro w' e
    simp only [List.all_cons, Bool.and_eq_true] at hp
    simp only [List.zip_cons_cons, List.find?_cons, isKey_eqD hp.1 hd] at e
    by_cases hk : kof k = kof d
    · rw [decide_eq_true hk] at e
      simp only [Option.map_some, Option.some.injEq] at e
      subst e
      exact ⟨(b, u), y, by simp [atKey, List.find?_cons, hk], r, 0, rfl, rfl⟩
    · rw [decide_eq_false hk] at e
      obtain ⟨p, y', h1, h2, i, h3, h4⟩ := ih hp.2 e
      exact ⟨p, y', by simpa [atKey, List.find?_cons, hk] using h1, h2, i + 1, by simpa using h3, by simpa using h4⟩
theorem DX.isin {xs ks kv ws wv} (h : DX xs ks kv ws wv) (hp : ks.all isKey = true) {d : D} (hd : isKey d = true) : (atKey xs (kof d)).isSome = inD d ks := by
  induction h with
  | nil => rfl
  | @cons xs ks kv ws wv k b u w y r t ih =>
    simp only [List.all_cons, Bool.and_eq_true] at hp
    have ih := ih hp.2
    simp only [inD, List.any_cons, isKey_eqD hp.1 hd] at ih ⊢
    by_cases hk : kof k = kof d
    · simp [atKey, List.find?_cons, hk]
    · simp only [atKey, List.find?_cons, decide_eq_false hk, Bool.false_or]
      exact ih
/-- the object of a dict, as the library's keyed dict -/
theorem DObj.keyed {F H : Hp} {μ : List Addr} {pins : List (Addr × Obj)} {s : Shared} {σ : L2.St} {a : Addr} {o : Obj} {ks ws : List D} {kv wv : List V} (A : Agree S X) (hF : Same F H) (I : Inv X pins σ H s) (ho : H a = some (dxo a o)) (h : DObj S.w o (ks.map kof) kv wv)
    (hp : ks.all isKey = true) (hk : Reps S F μ ks kv) (hw : Reps S F μ ws wv) : ∃ xs, DX xs ks kv ws wv ∧ s.heap.DictOfH (nestedKind X.prog X.w) a xs ∧ xs.length ≤ sizeLine := by
  have hx := h.ex
  obtain ⟨es, ep, hd, h1, h2, h3, h4⟩ := h.dt
  rw [List.length_map] at h1 h2 h3
  have hl := hw.length
  obtain ⟨xs, d, he⟩ := DX.of_obj (w := S.w) (es := es.toList) hp hk hw (by rw [Array.length_toList]; exact h1) (by omega) fun i e q => h4 i e (by rw [← Array.getElem?_toList]; exact q)
  have hob : s.heap.get? a = some o := (I.hok a _ ho).1
  refine ⟨xs, d, ⟨o, es, ep, hob, hx, hd, ?_, fun x hm => ?_, ?_⟩, ?_⟩
  · rw [he X.prog, A.w]
  · obtain ⟨i, hi, ei⟩ := List.getElem_of_mem hm
    have q : xs[i]? = some x := by rw [List.getElem?_eq_getElem hi, ei]
    have gen : ∀ {xs ks kv ws wv}, DX xs ks kv ws wv → Reps S F μ ks kv → ks.all isKey = true → ∀ (i : Nat) x, xs[i]? = some x → (nestedKind X.prog X.w).is s.heap x.1 x.2.1 := by
      intro xs ks kv ws wv dx
      induction dx with
      | nil => intro _ _ i x e; simp at e
      | @cons xs ks kv ws wv k b u w y r t ih =>
        intro hk hp i x e
        obtain ⟨v1, r1, e1, hk1, hk2⟩ := hk.inv
        cases e1
        simp only [List.all_cons, Bool.and_eq_true] at hp
        cases i with
        | zero =>
          simp at e
          subst e
          obtain ⟨zs, ez, hz⟩ := isKey_ky hp.1
          exact ⟨key_is A hF I 8 k _ _ hz hk1 rfl, depth_kof 8 k hz⟩
        | succ i => exact ih hk2 hp.2 i x (by simpa using e)
    exact gen d hk hp i x q
  · rw [d.keys]; exact h.nd
  · rw [d.len.1]
    have := h.sz
    rwa [List.length_map] at this
end
end R
end
section
set_option Elab.async false
set_option linter.all false
set_option maxRecDepth 100000
/-! RB4: membership; stores and pops of dicts; subscripts, slices. -/
namespace R
open PySem PySem.Spec PyProof.Rows L2
section
variable {S : St0} {X : Cx}

theorem room_key {A : Around} (hu : A.units + 65 < cLine) (P : Program) (w : World) : (nestedKind P w).room A.in1 := by
  show A.in1.units + 8 < cLine
  show A.units + 1 + 8 < cLine
  omega
theorem room_key0 {A : Around} (hu : A.units + 65 < cLine) (P : Program) (w : World) : (nestedKind P w).room A := by
  show A.units + 8 < cLine
  omega
theorem in_core (A : Agree S X) (hu : X.A.units + 65 < cLine) {pins : List (Addr × Obj)} {s : Shared} {σ : L2.St} {F H : Hp} {μ : List Addr} {x y : V} {dx dy : D} {v u : Value} {Q : VK} {k neg : Bool} (I : Inv X pins σ H s) (rx : RelV x v) (ry : RelV y u) (hF : Same F H) (hx : Sv S F H μ dx x) (hy : Sv S F H μ dy y)
    (e : cmpD (if neg then .notin else .isin) dx dy = some k) (q : Q (.bl k) H) : wpAny (model X.prog X.w) X.A (compareOp (if neg then .NotIn else .In) v u) (EP X pins σ Q) X.xe s := by
  cases dy with
  | lst xs =>
    have e' : (sh 7 dx && sh 8 (.lst xs)) = true ∧ (if neg then !inD dx xs else inD dx xs) = k := by
      cases neg <;> cases dx <;> simp only [cmpD, if_true, Bool.false_eq_true, if_false] at e ⊢ <;> split at e <;> simp_all
    obtain ⟨hz, e'⟩ := e'
    rw [Bool.and_eq_true] at hz
    have p1 := hx.dp hF hz.1
    have p2 := hy.dp hF hz.2
    rw [A.K] at p1 p2
    have hin : inD dx xs = (pys xs).any fun z => PyData.eqv z (py dx) := by
      have h8 : xs.all (sh 7) = true := by simpa [sh] using hz.2
      have gen : ∀ l : List D, l.all (sh 7) = true → inD dx l = (pys l).any fun z => PyData.eqv z (py dx) := by
        intro l
        induction l with
        | nil => intro _; rfl
        | cons z l ih =>
          intro hl
          simp only [List.all_cons, Bool.and_eq_true] at hl
          simp only [inD, List.any_cons, pys] at ih ⊢
          rw [eqD_eqv z dx 7 7 hl.1 hz.1, ih hl.2]
      exact gen xs h8
    simp only [py] at p2
    cases neg with
    | false =>
      refine L2.op_inD hu pins s σ H x y v u Q I rx ry ⟨_, _, p1, p2, shaped_py hz.1 (by decide), ?_, ?_⟩
      · have := shaped_py hz.2 (by decide); simpa only [py] using this
      · rw [if_neg Bool.false_ne_true] at e'; rw [← hin, e']; exact q
    | true =>
      refine L2.op_notInD hu pins s σ H x y v u Q I rx ry ⟨_, _, p1, p2, shaped_py hz.1 (by decide), ?_, ?_⟩
      · have := shaped_py hz.2 (by decide); simpa only [py] using this
      · rw [if_pos rfl] at e'; rw [← hin, e']; exact q
  | tup xs =>
    have e' : (sh 7 dx && sh 8 (.tup xs)) = true ∧ (if neg then !inD dx xs else inD dx xs) = k := by
      cases neg <;> cases dx <;> simp only [cmpD, if_true, Bool.false_eq_true, if_false] at e ⊢ <;> split at e <;> simp_all
    obtain ⟨hz, e'⟩ := e'
    rw [Bool.and_eq_true] at hz
    have p1 := hx.dp hF hz.1
    have p2 := hy.dp hF hz.2
    rw [A.K] at p1 p2
    have hin : inD dx xs = (pys xs).any fun z => PyData.eqv z (py dx) := by
      have h8 : xs.all (sh 7) = true := by simpa [sh] using hz.2
      have gen : ∀ l : List D, l.all (sh 7) = true → inD dx l = (pys l).any fun z => PyData.eqv z (py dx) := by
        intro l
        induction l with
        | nil => intro _; rfl
        | cons z l ih =>
          intro hl
          simp only [List.all_cons, Bool.and_eq_true] at hl
          simp only [inD, List.any_cons, pys] at ih ⊢
          rw [eqD_eqv z dx 7 7 hl.1 hz.1, ih hl.2]
      exact gen xs h8
    simp only [py] at p2
    obtain ⟨as, r1⟩ := Dp.reads I _ x v p1 rx
    obtain ⟨bs, r2⟩ := Dp.reads I _ y u p2 ry
    have cl : PyData.canLayAll0 (pys xs) = true := by
      have := canLay_py 8 _ hz.2
      simpa only [py, PyData.canLay0] using this
    have rm : X.A.units + 1 + min (PyData.depthAll (pys xs)) (py dx).depth < cLine := by
      have := depth_py 7 dx hz.1
      omega
    cases neg with
    | false =>
      refine SeqAt.in_tuple_reads r2 r1 cl (canLay_py 7 dx hz.1) rm ⟨.bl _, H, I, rfl, ?_⟩
      rw [if_neg Bool.false_ne_true] at e'; rw [← hin, e']; exact q
    | true =>
      refine SeqAt.notIn_tuple_reads r2 r1 cl (canLay_py 7 dx hz.1) rm ⟨.bl _, H, I, rfl, ?_⟩
      rw [if_pos rfl] at e'; rw [← hin, e']; exact q
  | dic ks ws =>
    have e' : (isKey dx && ks.all isKey) = true ∧ (if neg then !inD dx ks else inD dx ks) = k := by
      cases neg <;> cases dx <;> simp only [cmpD, if_true, Bool.false_eq_true, if_false] at e ⊢ <;> split at e <;> simp_all
    obtain ⟨hz, e'⟩ := e'
    rw [Bool.and_eq_true] at hz
    obtain ⟨a, o, kv, wv, rfl, ha, hs, hd, hk8, hk, hw⟩ := hy
    obtain ⟨xs, dx', hm, hsz⟩ := DObj.keyed A hF I ha hd hz.2 hk hw
    obtain ⟨zs, rfl, hz8⟩ := isKey_ky hz.1
    have hx' : Rep S F μ (.tup zs) x := hx
    obtain ⟨b, rfl⟩ := key_ref hz.1 hx'
    cases rx
    cases ry
    have hki : (nestedKind X.prog X.w).is s.heap (kof (.tup zs)) b := ⟨key_is A hF I 8 _ _ _ hz8 hx' rfl, depth_kof 8 _ hz8⟩
    cases neg with
    | false =>
      refine wpAny_in_heap (room_key hu _ _) hki hs hm ?_
      rw [dx'.isin hz.2 hz.1]
      rw [if_neg Bool.false_ne_true] at e'; rw [e']
      exact ⟨.bl _, H, I.tok _, rfl, q⟩
    | true =>
      refine wpAny_notIn_heap (room_key hu _ _) hki hs hm ?_
      rw [dx'.isin hz.2 hz.1]
      rw [if_pos rfl] at e'; rw [e']
      exact ⟨.bl _, H, I.tok _, rfl, q⟩
  | _ => cases neg <;> cases dx <;> simp [cmpD] at e
theorem op_inDD (A : Agree S X) (hu : X.A.units + 65 < cLine) : OpR X (compareOp .In) (r2b S (cmpD .isin)) := by
  intro pins s σ H x y v u Q I rx ry h
  obtain ⟨F, μ, dx, dy, k, hF, hx, hy, e, q⟩ := h
  exact in_core (neg := false) A hu I rx ry hF hx hy e q
theorem op_notinDD (A : Agree S X) (hu : X.A.units + 65 < cLine) : OpR X (compareOp .NotIn) (r2b S (cmpD .notin)) := by
  intro pins s σ H x y v u Q I rx ry h
  obtain ⟨F, μ, dx, dy, k, hF, hx, hy, e, q⟩ := h
  exact in_core (neg := true) A hu I rx ry hF hx hy e q
def cop : COp → CmpOp
  | .eq => .Eq | .ne => .NotEq | .lt => .Lt | .le => .LtE | .gt => .Gt | .ge => .GtE | .isin => .In | .notin => .NotIn | .is => .Is | .isnot => .IsNot
theorem op_cmpD (A : Agree S X) (hu : X.A.units + 65 < cLine) (hf : ∀ f, S.fnv f ≠ .non) (o : COp) : OpR X (compareOp (cop o)) (r2b S (cmpD o)) := by
  cases o with
  | eq => exact op_eqDD A hu
  | ne => exact op_neDD A hu
  | lt => exact op_ltDD A hu
  | le => exact op_leDD A
  | gt => exact op_gtDD A
  | ge => exact op_geDD A
  | isin => exact op_inDD A hu
  | notin => exact op_notinDD A hu
  | is => exact op_isDD A hf
  | isnot => exact op_isnotDD A hf

/-! ### a[i] -/
def r2v (S : St0) (g : D → D → Option D) : R2 := fun x y H Q => ∃ F μ dx dy d, Same F H ∧ Sv S F H μ dx x ∧ Sv S F H μ dy y ∧ g dx dy = some d ∧ ∀ v, Rep S F μ d v → Q v H
theorem atI_rep {F : Hp} {μ : List Addr} {xs : List D} {vs : List V} {i : Int} {d : D} (h : Reps S F μ xs vs) (e : atI xs i = some d) : ∃ v, atI vs i = some v ∧ Rep S F μ d v := by
  unfold atI at e ⊢
  rw [h.length]
  cases q : ixN xs.length i with
  | none => rw [q] at e; cases e
  | some j =>
    rw [q] at e
    obtain ⟨v, h1, h2⟩ := h.get (i := j) (d := d) e
    exact ⟨v, h1, h2⟩
theorem ix_D (A : Agree S X) (hu : X.A.units + 65 < cLine) : IxR X (r2v S idxD) := by
  intro value slice pins s σ H x y v u Q I rx ry h hs
  obtain ⟨F, μ, dx, dy, d, hF, hx, hy, e, q⟩ := h
  cases dx with
  | lst xs =>
    cases dy <;> simp [idxD] at e
    obtain ⟨a, vs, rfl, ha, hvs⟩ := hx
    rw [A.K] at ha
    rw [intV hy] at ry
    obtain ⟨z, e1, e2⟩ := atI_rep hvs e
    exact ix_list value slice pins s σ H _ _ v u Q I rx ry ⟨a, vs, _, z, rfl, rfl, ha, e1, q z e2⟩ hs
  | tup xs =>
    cases dy <;> simp [idxD] at e
    obtain ⟨a, vs, rfl, ha, hvs⟩ := tupV hF hx
    rw [A.K] at ha
    rw [intV hy] at ry
    obtain ⟨z, e1, e2⟩ := atI_rep hvs e
    exact ix_tup value slice pins s σ H _ _ v u Q I rx ry ⟨a, vs, _, z, rfl, rfl, ha, e1, q z e2⟩ hs
  | dic ks ws =>
    have e' : (isKey dy && ks.all isKey) = true ∧ ((ks.zip ws).find? (fun p => eqD p.1 dy)).map (·.2) = some d := by
      cases dy <;> simp only [idxD] at e <;> split at e <;> first | exact ⟨by assumption, e⟩ | cases e
    obtain ⟨hz, e'⟩ := e'
    rw [Bool.and_eq_true] at hz
    obtain ⟨a, o, kv, wv, rfl, ha, hs', hd, hk8, hk, hw⟩ := hx
    obtain ⟨xs, dx', hm, hsz⟩ := DObj.keyed A hF I ha hd hz.2 hk hw
    obtain ⟨zs, rfl, hz8⟩ := isKey_ky hz.1
    have hy' : Rep S F μ (.tup zs) y := hy
    obtain ⟨b, rfl⟩ := key_ref hz.1 hy'
    cases rx
    cases ry
    have hki : (nestedKind X.prog X.w).is s.heap (kof (.tup zs)) b := ⟨key_is A hF I 8 _ _ _ hz8 hy' rfl, depth_kof 8 _ hz8⟩
    obtain ⟨p, z, h1, h2, i, h3, h4⟩ := dx'.find hz.2 hz.1 e'
    obtain ⟨z', h5, h6⟩ := hw.get h3
    rw [h4] at h5
    cases h5
    exact subscriptTail_builtinR (x := p.2) hm.typeIs PySem.F.slot_dict_getitem.lookup
      (wpAny_getItem_heap (Q := fun r s' => r = p.2 ∧ EP X pins σ Q r s') (room_key hu _ _) hki hm h1 ⟨rfl, z, H, I.tok _, h2, q z h6⟩) hs
  | _ => cases dy <;> simp [idxD] at e

/-! ### slices -/
theorem cut_len {α : Type} (xs : List α) (n d : Nat) (o : Option Int) : HT.sIx n d o = HT.sIx n d o := rfl
theorem cutV_reps {F : Hp} {μ : List Addr} {xs : List D} {vs : List V} (h : Reps S F μ xs vs) (lo hi : Option Int) : Reps S F μ (cutD xs lo hi) (cutV vs lo hi) := by
  unfold cutD cutV
  rw [h.length]
  exact (h.drop _).take _
def rSl (S : St0) : V → Option Int → Option Int → Hp → VK → Prop := fun x lo hi H Q => ∃ F μ d k, Same F H ∧ Sv S F H μ d x ∧ slcD d lo hi = some k ∧ ∀ v H', Same H H' → OV S F H H' μ k v → Q v H'
theorem sl_D (A : Agree S X) : SlR X (rSl S) := by
  intro pins s σ H x v vl vu lo hi sl Q I rx hs pl pu h
  obtain ⟨F, μ, d, k, hF, hx, e, q⟩ := h
  cases d <;> simp [slcD] at e
  · subst e
    rename_i xs
    have hx0 := hx
    obtain ⟨a, vs, rfl, ha, hvs⟩ := tupV hF hx
    rw [A.K] at ha
    refine sl_tupA pins s σ H _ v vl vu lo hi sl Q I rx hs pl pu ⟨a, vs, rfl, ha, fun ⟨h1, h2⟩ => ?_, fun _ p hp => ?_⟩
    · have hc : cutD xs lo hi = xs := by
        unfold cutD
        rw [hvs.length] at h1 h2
        rw [h1, h2]
        simp
      rw [hc] at q
      exact q _ H (Same.refl H) (OV.old hF hx0)
    · exact q _ _ (same_new hp) (OV.tup hF hp (cutV_reps hvs lo hi))
  · subst e
    obtain ⟨a, vs, rfl, ha, hvs⟩ := hx
    rw [A.K] at ha
    exact sl_list pins s σ H _ v vl vu lo hi sl Q I rx hs pl pu ⟨a, vs, rfl, ha, fun p hp => q _ _ (same_new hp) (OV.lst hF hp (cutV_reps hvs lo hi))⟩

/-! ### stores into dicts -/
theorem DX.snoc {xs ks kv ws wv k b u w y} (r : RelV y u) (h : DX xs ks kv ws wv) : DX (xs ++ [(kof k, b, u)]) (ks ++ [k]) (kv ++ [.ref b]) (ws ++ [w]) (wv ++ [y]) := by
  induction h with
  | nil => exact .cons r .nil
  | cons r' t ih => exact .cons r' ih
theorem DX.put {xs ks kv ws wv} (h : DX xs ks kv ws wv) (hp : ks.all isKey = true) {k w : D} {u : Value} {y : V} (hk : isKey k = true) (r : RelV y u) :
    DX (xs.map (putAt (kof k) u)) ks kv ((ks.zip ws).map fun p => if eqD p.1 k then w else p.2) ((ks.zip wv).map fun p => if eqD p.1 k then y else p.2) := by
  induction h with
  | nil => exact .nil
  | @cons xs ks kv ws wv k1 b u1 w1 y1 r1 t ih =>
    simp only [List.all_cons, Bool.and_eq_true] at hp
    simp only [List.map_cons, List.zip_cons_cons, isKey_eqD hp.1 hk]
    by_cases e : kof k1 = kof k
    · rw [decide_eq_true e]
      simp only [putAt, e, if_true]
      rw [← e]
      exact .cons r (by simpa only [isKey_eqD hp.1 hk] using e ▸ ih hp.2)
    · rw [decide_eq_false e]
      simp only [putAt, e, if_false, Bool.false_eq_true]
      exact .cons r1 (ih hp.2)
theorem put_reps {F : Hp} {μ : List Addr} {k w : D} {y : V} (hw : Rep S F μ w y) : ∀ {ks ws : List D} {wv : List V}, Reps S F μ ws wv → Reps S F μ ((ks.zip ws).map fun p => if eqD p.1 k then w else p.2) ((ks.zip wv).map fun p => if eqD p.1 k then y else p.2)
  | [], ws, wv, _ => Reps.nil
  | k1 :: ks, [], wv, h => by rw [h.inv0]; exact Reps.nil
  | k1 :: ks, w1 :: ws, wv, h => by
    obtain ⟨v, t, rfl, h1, h2⟩ := h.inv
    simp only [List.zip_cons_cons, List.map_cons]
    refine Reps.cons ?_ (put_reps hw h2)
    split
    · exact hw
    · exact h1
theorem DX.to_obj {xs ks kv ws wv} (P : Program) (w : World) (h : DX xs ks kv ws wv) : ∀ (i : Nat) (e : DictEntry), (xs.map (entryOfKey (nestedKind P w)))[i]? = some e → ∃ k x y, (ks.map kof)[i]? = some k ∧ kv[i]? = some x ∧ wv[i]? = some y ∧ e.hash = NestedKey.hash w k ∧ RelV x e.key ∧ RelV y e.val := by
  induction h with
  | nil => intro i e q; simp at q
  | @cons xs ks kv ws wv k b u w1 y r t ih =>
    intro i e q
    cases i with
    | zero =>
      simp only [List.map_cons, List.getElem?_cons_zero, Option.some.injEq] at q
      subst q
      exact ⟨kof k, .ref b, y, rfl, rfl, rfl, rfl, rfl, r⟩
    | succ i => simpa using ih i e (by simpa using q)
theorem DX.dobj {xs ks kv ws wv} {P : Program} {w : World} (h : DX xs ks kv ws wv) {o : Obj} {es : Array DictEntry} {ep : Nat} (hx : o.ExactDict) (hd : o.data = .dict es ep) (he : es.toList = xs.map (entryOfKey (nestedKind P w))) (nd : (xs.map (·.1)).Nodup) (sz : xs.length ≤ sizeLine) :
    DObj w o (ks.map kof) kv wv := by
  have hl := h.len
  have hs : es.size = xs.length := by rw [← Array.length_toList, he, List.length_map]
  refine ⟨hx, ⟨es, ep, hd, by rw [List.length_map]; omega, by rw [List.length_map]; omega, by rw [List.length_map]; omega, fun i e q => ?_⟩, by rw [← h.keys]; exact nd, by rw [List.length_map]; omega⟩
  exact h.to_obj P w i e (by rw [← he, Array.getElem?_toList]; exact q)
/-- the heap behind a change of the dict at a -/
theorem dxo_write {pins : List (Addr × Obj)} {s : Shared} {σ : L2.St} {H : Hp} {a : Addr} {o o' : Obj} {h' : Heap} {t' : Nat} (I : Inv X pins σ H s) (ho : H a = some (dxo a o)) (he : h'.get? a = some o') (sb : Heap.SameBut a s.heap h') :
    Inv X pins σ (upd H a (dxo a o')) { s with heap := h', toks := t' } := by
  refine I.write (x := a) (e := a) (by rw [ho]; exact trivial) (.inl rfl) (fun b u hb e => (sb.2 b hb).trans e) ⟨_, he⟩ ?_
  exact ⟨he, ⟨o', he⟩, fun h1 h2 p k => k _ p⟩
theorem dict_putG {act : Sem Unit} {E : Value → Shared → Prop} (A : Agree S X) (hu : X.A.units + 65 < cLine) {pins : List (Addr × Obj)} {s : Shared} {σ : L2.St} {F H : Hp} {μ : List Addr} {a : Addr} {o : Obj} {ks ws : List D} {kv wv : List V} {k w : D} {x y : V} {v u : Value} {Q : Unit → Shared → Prop} (hF : Same F H) (I : Inv X pins σ H s)
    (ho : H a = some (dxo a o)) (h : DObj S.w o (ks.map kof) kv wv) (hp : ks.all isKey = true) (hk : Reps S F μ ks kv) (hw : Reps S F μ ws wv) (hk1 : isKey k = true) (hx : Rep S F μ k x) (hy : Rep S F μ w y) (rx : RelV x v) (ry : RelV y u) (hz : ks.length < 16777216)
    (q : ∀ s' o' kv' wv', Inv X pins σ (upd H a (dxo a o')) s' → DObj S.w o' ((putK k w ks ws).1.map kof) kv' wv' → (putK k w ks ws).1.all isKey = true → Reps S F μ (putK k w ks ws).1 kv' → Reps S F μ (putK k w ks ws).2 wv' → Q () s')
    (run : ∀ {k : NestedKey} {b : Addr} {xs : List (NestedKey × Addr × Value)}, v = .ref b → (nestedKind X.prog X.w).is s.heap k b → s.heap.DictOfH (nestedKind X.prog X.w) a xs → (∀ h', h'.DictOfH (nestedKind X.prog X.w) a (storedH xs k b u) → Heap.SameBut a s.heap h' → Q () { s with heap := h', toks := s.toks + (nestedKind X.prog X.w).draws k }) → xs.length ≤ sizeLine → wpAny (model X.prog X.w) X.A act Q E s) :
    wpAny (model X.prog X.w) X.A act Q E s := by
  obtain ⟨xs, dx, hm, hsz⟩ := DObj.keyed A hF I ho h hp hk hw
  obtain ⟨zs, ek, hz8⟩ := isKey_ky hk1
  obtain ⟨b, rfl⟩ := key_ref hk1 hx
  cases rx
  have hki : (nestedKind X.prog X.w).is s.heap (kof k) b := ⟨key_is A hF I 8 _ _ _ hz8 hx rfl, depth_kof 8 _ hz8⟩
  refine run rfl hki hm (fun h' hm' sb => ?_) (by rw [dx.len.1, sizeLine_eq]; omega)
  obtain ⟨o', es, ep, e1, e2, e3, e4, e5, e6⟩ := hm'
  have I' := dxo_write (t' := s.toks + (nestedKind X.prog X.w).draws (kof k)) I ho e1 sb
  have isn := dx.isin hp hk1
  unfold putK at q
  by_cases hin : inD k ks = true
  · simp only [hin, if_true] at q
    obtain ⟨p, hpp⟩ := Option.isSome_iff_exists.mp (isn.trans hin)
    rw [storedH_old hpp] at e4 e6
    have dx' := dx.put (w := w) hp hk1 ry
    refine q _ o' _ _ I' ?_ hp hk (put_reps hy hw)
    rw [A.w]
    exact dx'.dobj e2 e3 e4 e6 (by rw [List.length_map]; exact hsz)
  · have hin' : inD k ks = false := by simpa using hin
    simp only [hin', Bool.false_eq_true, if_false] at q
    have hnone : atKey xs (kof k) = none := by
      cases z : atKey xs (kof k) with
      | none => rfl
      | some p => rw [z, hin'] at isn; cases isn
    rw [storedH_new hnone] at e4 e6
    have dx' := dx.snoc (k := k) (b := b) (w := w) ry
    refine q _ o' _ _ I' ?_ (by rw [List.all_append, hp]; simp [hk1]) (hk.append (Reps.cons hx Reps.nil)) (hw.append (Reps.cons hy Reps.nil))
    rw [A.w]
    have := dx.len.1
    exact dx'.dobj e2 e3 e4 e6 (by rw [List.length_append, sizeLine_eq]; simp; omega)
theorem dict_put (A : Agree S X) (hu : X.A.units + 65 < cLine) {pins : List (Addr × Obj)} {s : Shared} {σ : L2.St} {F H : Hp} {μ : List Addr} {a : Addr} {o : Obj} {ks ws : List D} {kv wv : List V} {k w : D} {x y : V} {v u : Value} {Q : Unit → Shared → Prop} (hF : Same F H) (I : Inv X pins σ H s)
    (ho : H a = some (dxo a o)) (h : DObj S.w o (ks.map kof) kv wv) (hp : ks.all isKey = true) (hk : Reps S F μ ks kv) (hw : Reps S F μ ws wv) (hk1 : isKey k = true) (hx : Rep S F μ k x) (hy : Rep S F μ w y) (rx : RelV x v) (ry : RelV y u) (hz : ks.length < 16777216)
    (q : ∀ s' o' kv' wv', Inv X pins σ (upd H a (dxo a o')) s' → DObj S.w o' ((putK k w ks ws).1.map kof) kv' wv' → (putK k w ks ws).1.all isKey = true → Reps S F μ (putK k w ks ws).1 kv' → Reps S F μ (putK k w ks ws).2 wv' → Q () s') :
    wpAny (model X.prog X.w) X.A (setItem (.ref a) v u) Q X.xe s :=
  dict_putG A hu hF I ho h hp hk hw hk1 hx hy rx ry hz q fun e1 e2 e3 e4 e5 => by subst e1; exact wpAny_setItem_heap (room_key hu _ _) e2 e3 e4 e5
/-- .. by a comprehension -/
theorem dict_putC {E : Value → Shared → Prop} (A : Agree S X) (hu : X.A.units + 65 < cLine) {pins : List (Addr × Obj)} {s : Shared} {σ : L2.St} {F H : Hp} {μ : List Addr} {a : Addr} {o : Obj} {ks ws : List D} {kv wv : List V} {k w : D} {x y : V} {v u : Value} {Q : Unit → Shared → Prop} (hF : Same F H) (I : Inv X pins σ H s)
    (ho : H a = some (dxo a o)) (h : DObj S.w o (ks.map kof) kv wv) (hp : ks.all isKey = true) (hk : Reps S F μ ks kv) (hw : Reps S F μ ws wv) (hk1 : isKey k = true) (hx : Rep S F μ k x) (hy : Rep S F μ w y) (rx : RelV x v) (ry : RelV y u) (hz : ks.length < 16777216)
    (q : ∀ s' o' kv' wv', Inv X pins σ (upd H a (dxo a o')) s' → DObj S.w o' ((putK k w ks ws).1.map kof) kv' wv' → (putK k w ks ws).1.all isKey = true → Reps S F μ (putK k w ks ws).1 kv' → Reps S F μ (putK k w ks ws).2 wv' → Q () s') :
    wpAny (model X.prog X.w) X.A (dictSet a v u) Q E s :=
  dict_putG A hu hF I ho h hp hk hw hk1 hx hy rx ry hz q fun e1 e2 e3 e4 e5 => by subst e1; exact wpAny_dictSet_heap (room_key0 hu _ _) e2 e3 e4 e5
theorem DX.pop {xs ks kv ws wv} (h : DX xs ks kv ws wv) (hp : ks.all isKey = true) {k : D} (hk : isKey k = true) {F : Hp} {μ : List Addr} (h1 : Reps S F μ ks kv) (h2 : Reps S F μ ws wv) :
    ∃ kv' wv', DX (withoutH xs (kof k)) (popK k ks ws).1 kv' (popK k ks ws).2 wv' ∧ Reps S F μ (popK k ks ws).1 kv' ∧ Reps S F μ (popK k ks ws).2 wv' ∧ (popK k ks ws).1.all isKey = true := by
  induction h with
  | nil => exact ⟨[], [], .nil, Reps.nil, Reps.nil, rfl⟩
  | @cons xs ks kv ws wv k1 b u1 w1 y1 r1 t ih =>
    simp only [List.all_cons, Bool.and_eq_true] at hp
    obtain ⟨v1, t1, e1, a1, a2⟩ := h1.inv
    cases e1
    obtain ⟨v2, t2, e2, b1, b2⟩ := h2.inv
    cases e2
    obtain ⟨kv', wv', d, c1, c2, c3⟩ := ih hp.2 a2 b2
    simp only [popK, withoutH, List.zip_cons_cons, List.filter_cons, isKey_eqD hp.1 hk] at d c1 c2 c3 ⊢
    by_cases e : kof k1 = kof k
    · rw [decide_eq_true e]
      simp only [e, ne_eq, not_true_eq_false, decide_false, Bool.not_true, Bool.false_eq_true, if_false]
      exact ⟨kv', wv', d, c1, c2, c3⟩
    · rw [decide_eq_false e]
      simp only [e, ne_eq, not_false_eq_true, decide_true, Bool.not_false, if_true, List.map_cons]
      exact ⟨_, _, .cons r1 d, Reps.cons a1 c1, Reps.cons b1 c2, by rw [List.all_cons, hp.1, c3]; rfl⟩
theorem dict_pop (A : Agree S X) (hu : X.A.units + 65 < cLine) {pins : List (Addr × Obj)} {s : Shared} {σ : L2.St} {F H : Hp} {μ : List Addr} {a : Addr} {o : Obj} {ks ws : List D} {kv wv : List V} {k : D} {x : V} {v : Value} {Q : Value → Shared → Prop} (hF : Same F H) (I : Inv X pins σ H s)
    (ho : H a = some (dxo a o)) (hs : (a == sysModules) = false) (h : DObj S.w o (ks.map kof) kv wv) (hp : ks.all isKey = true) (hk : Reps S F μ ks kv) (hw : Reps S F μ ws wv) (hk1 : isKey k = true) (hin : inD k ks = true) (hx : Rep S F μ k x) (rx : RelV x v)
    (q : ∀ s' o' kv' wv' y z, Inv X pins σ (upd H a (dxo a o')) s' → RelV y z → DObj S.w o' ((popK k ks ws).1.map kof) kv' wv' → (popK k ks ws).1.all isKey = true → Reps S F μ (popK k ks ws).1 kv' → Reps S F μ (popK k ks ws).2 wv' → Q z s') :
    wpAny (model X.prog X.w) X.A (call (.builtin "dict.pop") [.ref a, v]) Q X.xe s := by
  obtain ⟨xs, dx, hm, hsz⟩ := DObj.keyed A hF I ho h hp hk hw
  obtain ⟨zs, ek, hz8⟩ := isKey_ky hk1
  obtain ⟨b, rfl⟩ := key_ref hk1 hx
  cases rx
  have hki : (nestedKind X.prog X.w).is s.heap (kof k) b := ⟨key_is A hF I 8 _ _ _ hz8 hx rfl, depth_kof 8 _ hz8⟩
  obtain ⟨p, hpp⟩ := Option.isSome_iff_exists.mp ((dx.isin hp hk1).trans hin)
  have hy : ∃ y, RelV y p.2 := by
    have gen : ∀ {xs ks kv ws wv}, DX xs ks kv ws wv → atKey xs (kof k) = some p → ∃ y, RelV y p.2 := by
      intro xs ks kv ws wv dx
      induction dx with
      | nil => intro e; simp [atKey] at e
      | @cons xs ks kv ws wv k1 b1 u1 w1 y1 r1 t ih =>
        intro e
        by_cases e1 : kof k1 = kof k
        · simp [atKey, List.find?_cons, e1] at e
          subst e
          exact ⟨y1, r1⟩
        · simp only [atKey, List.find?_cons, decide_eq_false e1] at e
          exact ih e
    exact gen dx hpp
  obtain ⟨y, ry⟩ := hy
  refine call_pop_heap (more := []) (.inl rfl) (PySem.F.args_dict_pop_2 _ _) (room_key hu _ _) hki hs hm hpp (fun h' hm' sb => ?_) hsz
  obtain ⟨o', es, ep, e1, e2, e3, e4, e5, e6⟩ := hm'
  have I' := dxo_write (t' := s.toks + (nestedKind X.prog X.w).draws (kof k)) I ho e1 sb
  obtain ⟨kv', wv', d, c1, c2, c3⟩ := dx.pop hp hk1 hk hw
  refine q _ o' kv' wv' y p.2 I' ry ?_ c3 c1 c2
  rw [A.w]
  exact d.dobj e2 e3 e4 e6 (Nat.le_trans (List.length_filter_le _ _) hsz)
end
end R
end
section
set_option Elab.async false
set_option linter.all false
set_option maxRecDepth 100000
/-! RB5: built-ins of one argument: len, tuple, list, all, any, sum, abs, isinstance; index and count. -/
namespace R
open PySem PySem.Spec PyProof.Rows L2
section
variable {S : St0} {X : Cx}
theorem bools_map : ∀ {xs : List D} {bs : List Bool}, boolsD xs = some bs → xs = bs.map D.bl
  | [], bs, h => by simp [boolsD] at h; subst h; rfl
  | x :: xs, bs, h => by
    cases x <;> simp [boolsD] at h
    obtain ⟨cs, h1, rfl⟩ := h
    rw [bools_map h1]; rfl
theorem ints_map : ∀ {xs : List D} {bs : List Int}, intsD xs = some bs → xs = bs.map D.int
  | [], bs, h => by simp [intsD] at h; subst h; rfl
  | x :: xs, bs, h => by
    cases x <;> simp [intsD] at h
    obtain ⟨cs, h1, rfl⟩ := h
    rw [ints_map h1]; rfl
theorem reps_bls {F : Hp} {μ : List Addr} : ∀ {bs : List Bool} {vs : List V}, Reps S F μ (bs.map D.bl) vs → vs = bs.map V.bl
  | [], vs, h => h.inv0
  | b :: bs, vs, h => by
    obtain ⟨v, r, rfl, h1, h2⟩ := Reps.inv (d := D.bl b) (ds := bs.map D.bl) h
    simp only [Rep] at h1
    rw [h1, reps_bls h2]; rfl
theorem reps_ints {F : Hp} {μ : List Addr} : ∀ {bs : List Int} {vs : List V}, Reps S F μ (bs.map D.int) vs → vs = bs.map V.int
  | [], vs, h => h.inv0
  | b :: bs, vs, h => by
    obtain ⟨v, r, rfl, h1, h2⟩ := Reps.inv (d := D.int b) (ds := bs.map D.int) h
    simp only [Rep] at h1
    rw [h1, reps_ints h2]; rfl
/-- a dict as the model's own: no more is known of its keys than how they stand -/
theorem DObj.raw {w : World} {o : Obj} {nk : List NestedKey} {kv wv : List V} (h : DObj w o nk kv wv) : ∃ (es : Array DictEntry) (ep : Nat), o.ExactDict ∧ o.data = .dict es ep ∧ es.size = nk.length ∧ kv.length = es.size ∧ wv.length = es.size ∧
    (∀ (i : Nat) (hi : i < es.size), ∃ x, kv[i]? = some x ∧ RelV x es[i].key) ∧ (∀ (i : Nat) (hi : i < es.size), ∃ x, wv[i]? = some x ∧ RelV x es[i].val) ∧ es.size ≤ sizeLine := by
  obtain ⟨es, ep, h1, h2, h3, h4, h5⟩ := h.dt
  refine ⟨es, ep, h.ex, h1, h2, by omega, by omega, fun i hi => ?_, fun i hi => ?_, by rw [h2]; exact h.sz⟩
  · obtain ⟨k, x, y, _, a2, _, _, a5, _⟩ := h5 i es[i] (by simp [hi])
    exact ⟨x, a2, a5⟩
  · obtain ⟨k, x, y, _, _, a3, _, _, a6⟩ := h5 i es[i] (by simp [hi])
    exact ⟨y, a3, a6⟩
theorem dict_len_body {A : Around} {E : Value → Shared → Prop} {prog : Program} {w : World} {s : Shared} {d : Addr} {o : Obj} {es : Array DictEntry} {ep : Nat} {Q : Value → Shared → Prop} (hd : (d == sysModules) = false) (ho : s.heap.get? d = some o) (hx : o.ExactDict) (hdat : o.data = .dict es ep)
    (hfit : (es.size : Int) < 2 ^ 63) (h : ∀ t tk, Q (.int es.size t) { s with toks := tk }) : wpAny (model prog w) A (call (.builtin "len") [.ref d]) Q E s := by
  have hty : s.TypeIs (.ref d) "dict" := ⟨o, ho, hx.1⟩
  have M : MeetsIn prog w (Builtin.«dict.__len__» ⟨[.ref d], []⟩) (fun _ R s' => s'.heap.get? d = some o ∧ ∀ t tk, R (.ok (.ret (.int es.size t))) { s' with toks := tk }) := .of_wp fun A R s' ⟨ho', hr⟩ => by
    show wpAny _ _ (dictSize d >>= _) _ _ s'
    unfold dictSize
    refine wpAny_bind (wpAny_bind (wpAny_dictEntries ho' hdat (wpAny_pure ?_)))
    show wpAny _ _ (Builtin.Dict.pendingCount d >>= _) _ _ s'
    refine wpAny_bind (wpAny_pendingCount_other hd (wpAny_ret_mkInt ?_))
    rw [Nat.add_zero]
    exact hr _ _
  refine Calls.call_function_entry PySem.kind_len PySem.plain_len PySem.entry_len (PySem.args_len1 _) ?_
  unfold Builtin.«len»
  refine wpAny_bind (m := oneArg "len" _) (wpAny_pure ?_)
  refine wpAny_bind (wpAny_callSpecial?_slot (name := Str.ofString "__len__") hty PySem.F.slot_dict_len (call_meetsIn PySem.F.slot_dict_len hty PySem.F.entry_dict_len (PySem.F.args_dict_len_1 _) M ⟨ho, fun t tk => ?_⟩))
  refine wpAny_bind (wpAny_holding (wpAny_pure ?_))
  refine wpAny_bind (wpAny_letGo ?_)
  have n0 : ¬ ((es.size : Nat) : Int) < 0 := by omega
  have n1 : ¬ ((es.size : Nat) : Int) ≥ 2 ^ 63 := by omega
  simp only [n0, n1, if_false]
  exact wpAny_bind (wpAny_mkInt (wpAny_pure ⟨_, rfl, h _ _⟩))
theorem line62 {n : Nat} (h : n ≤ sizeLine) : (n : Int) < 2 ^ 63 := by
  rw [sizeLine_eq] at h
  omega
theorem bl_len (A : Agree S X) : CallR X (.builtin "len") (r1 S (bltD .len)) := by
  intro pins s σ H xs us Q I r h
  obtain ⟨F, μ, d, x, k, rfl, hF, hx, e, q⟩ := h
  cases d <;> simp [bltD] at e
  · obtain ⟨hz, e⟩ := e
    subst e
    rw [strV hx] at r
    exact call_len_str pins s σ H _ us Q I r ⟨_, rfl, szOk_le hz, q _ H (Same.refl H) OV.int⟩
  · subst e
    obtain ⟨a, vs, rfl, ha, hvs⟩ := tupV hF hx
    rw [A.K] at ha
    refine call_len_seq pins s σ H _ us Q I r ⟨a, vs, rfl, .inr ha, ?_⟩
    rw [hvs.length]
    exact q _ H (Same.refl H) OV.int
  · subst e
    obtain ⟨a, vs, rfl, ha, hvs⟩ := hx
    rw [A.K] at ha
    refine call_len_seq pins s σ H _ us Q I r ⟨a, vs, rfl, .inl ha, ?_⟩
    rw [hvs.length]
    exact q _ H (Same.refl H) OV.int
  · subst e
    obtain ⟨a, o, kv, wv, rfl, ha, hs, hd, hk8, hk, hw⟩ := hx
    obtain ⟨u, rfl, rx⟩ := vals1 r
    cases rx
    obtain ⟨es, ep, h1, h2, h3, h4, h5, h6, h7, h8⟩ := hd.raw
    rw [List.length_map] at h3
    refine dict_len_body hs (I.hok a _ ha).1 h1 h2 (line62 h8) fun t tk => ⟨.int es.size, H, I.tok tk, ⟨t, rfl⟩, ?_⟩
    rw [h3]
    exact q _ H (Same.refl H) OV.int
theorem bl_tuple (A : Agree S X) : CallR X (.type "tuple") (r1 S (bltD .tuple)) := by
  intro pins s σ H xs us Q I r h
  obtain ⟨F, μ, d, x, k, rfl, hF, hx, e, q⟩ := h
  cases d <;> simp [bltD] at e
  · subst e
    have hx0 := hx
    obtain ⟨a, vs, rfl, ha, hvs⟩ := tupV hF hx
    rw [A.K] at ha
    exact call_tuple_of pins s σ H _ us Q I r ⟨a, vs, rfl, .inr ⟨ha, q _ H (Same.refl H) (OV.old hF hx0)⟩⟩
  · subst e
    obtain ⟨a, vs, rfl, ha, hvs⟩ := hx
    rw [A.K] at ha
    exact call_tuple_of pins s σ H _ us Q I r ⟨a, vs, rfl, .inl ⟨ha, fun p hp => q _ _ (same_new hp) (OV.tup hF hp hvs)⟩⟩
theorem bl_list (A : Agree S X) : CallR X (.type "list") (r1 S (bltD .list)) := by
  intro pins s σ H xs us Q I r h
  obtain ⟨F, μ, d, x, k, rfl, hF, hx, e, q⟩ := h
  cases d <;> simp [bltD] at e
  · subst e
    obtain ⟨a, vs, rfl, ha, hvs⟩ := tupV hF hx
    rw [A.K] at ha
    exact call_list_of pins s σ H _ us Q I r ⟨a, vs, rfl, .inr ha, fun p hp => q _ _ (same_new hp) (OV.lst hF hp hvs)⟩
  · subst e
    obtain ⟨a, vs, rfl, ha, hvs⟩ := hx
    rw [A.K] at ha
    exact call_list_of pins s σ H _ us Q I r ⟨a, vs, rfl, .inl ha, fun p hp => q _ _ (same_new hp) (OV.lst hF hp hvs)⟩
theorem bl_all (A : Agree S X) (hc : X.calm = true) : CallR X (.builtin "all") (r1 S (bltD .all)) := by
  intro pins s σ H xs us Q I r h
  obtain ⟨F, μ, d, x, k, rfl, hF, hx, e, q⟩ := h
  cases d <;> simp [bltD] at e
  obtain ⟨bs, hb, e⟩ := e
  subst e
  obtain ⟨a, vs, rfl, ha, hvs⟩ := hx
  rw [bools_map hb] at hvs
  rw [reps_bls hvs] at ha
  rw [A.K] at ha
  refine cr_all hc pins s σ H _ us Q I r ⟨a, bs, rfl, ha, ?_⟩
  exact q _ H (Same.refl H) OV.bl
theorem bl_any (A : Agree S X) (hc : X.calm = true) : CallR X (.builtin "any") (r1 S (bltD .any)) := by
  intro pins s σ H xs us Q I r h
  obtain ⟨F, μ, d, x, k, rfl, hF, hx, e, q⟩ := h
  cases d <;> simp [bltD] at e
  obtain ⟨bs, hb, e⟩ := e
  subst e
  obtain ⟨a, vs, rfl, ha, hvs⟩ := hx
  rw [bools_map hb] at hvs
  rw [reps_bls hvs] at ha
  rw [A.K] at ha
  refine cr_any hc pins s σ H _ us Q I r ⟨a, bs, rfl, ha, ?_⟩
  exact q _ H (Same.refl H) OV.bl
theorem bl_sum (A : Agree S X) (hc : X.calm = true) : CallR X (.builtin "sum") (r1 S (bltD .sum)) := by
  intro pins s σ H xs us Q I r h
  obtain ⟨F, μ, d, x, k, rfl, hF, hx, e, q⟩ := h
  cases d <;> simp [bltD] at e
  obtain ⟨bs, hb, e⟩ := e
  subst e
  obtain ⟨a, vs, rfl, ha, hvs⟩ := hx
  rw [ints_map hb] at hvs
  rw [reps_ints hvs] at ha
  rw [A.K] at ha
  refine cr_sum hc pins s σ H _ us Q I r ⟨a, bs, rfl, ha, ?_⟩
  exact q _ H (Same.refl H) OV.int
theorem bl_abs : CallR X (.builtin "abs") (r1 S (bltD .abs)) := by
  intro pins s σ H xs us Q I r h
  obtain ⟨F, μ, d, x, k, rfl, hF, hx, e, q⟩ := h
  cases d <;> simp [bltD] at e
  subst e
  rw [intV hx] at r
  exact call_abs pins s σ H _ us Q I r ⟨_, rfl, q _ H (Same.refl H) OV.int⟩

/-! ### isinstance -/
def tyS : Ty → String
  | .int => "int" | .bool => "bool" | .tuple => "tuple" | .dict => "dict" | .str => "str"
theorem isa_kit {t : Ty} {d : D} {b : Bool} (h : isD t d = some b) : ∃ n : String, (match d with | .non => n = "NoneType" | .bl _ => n = "bool" | .int _ => n = "int" | .str _ => n = "str" | .tup _ => n = "tuple" | .lst _ => n = "list" | .dic _ _ => n = "dict" | _ => False) ∧ kitB n (tyS t) = some b := by
  cases t <;> cases d <;> simp [isD] at h <;> subst h <;> exact ⟨_, rfl, by decide +kernel⟩
theorem bl_isa (A : Agree S X) (t : Ty) : CallR X (.builtin "isinstance") (fun xs H Q => ∃ F μ d x b, xs = [x, .ty (tyS t)] ∧ Same F H ∧ Sv S F H μ d x ∧ isD t d = some b ∧ Q (.bl b) H) := by
  intro pins s σ H xs us Q I r h
  obtain ⟨F, μ, d, x, b, rfl, hF, hx, e, q⟩ := h
  obtain ⟨n, hn, hk⟩ := isa_kit e
  have base : ∀ ty, TyX X.K H x (.type ty) → n = ty → wpAny (model X.prog X.w) X.A (call (.builtin "isinstance") us) (EP X pins σ Q) X.xe s := fun ty ht e1 => by
    subst e1
    exact call_isi pins s σ H _ us Q I r ⟨x, _, _, _, b, rfl, .ty _, ht, kit_ty hk, q⟩
  cases d with
  | non => rw [nonV hx] at base; exact base _ (.base .non) hn
  | bl c => rw [blV hx] at base; exact base _ (.base (.bl c)) hn
  | int c => rw [intV hx] at base; exact base _ (.base (.int c)) hn
  | str c => rw [strV hx] at base; exact base _ (.base (.str c)) hn
  | tup ds =>
    obtain ⟨a, vs, rfl, ha, _⟩ := tupV hF hx
    rw [A.K] at ha
    rcases ha with (ha | ⟨o, ha⟩) | ⟨o, its, k, ha, hc, _⟩
    · exact base _ (.base (.tup ha)) hn
    · exact base _ (.fTuple ha) hn
    · exact base _ (.kTuple ha hc) hn
  | lst ds =>
    obtain ⟨a, vs, rfl, ha, _⟩ := hx
    rw [A.K] at ha
    rcases ha with (ha | ⟨o, ha⟩) | ⟨o, its, k, ha, hc, _⟩
    · exact base _ (.base (.lst ha)) hn
    · exact base _ (.base (.frz ha)) hn
    · exact base _ (.kList ha hc) hn
  | dic ks ws =>
    obtain ⟨a, o, kv, wv, rfl, ha, _, hd, _⟩ := hx
    subst hn
    obtain ⟨u1, u2, rfl, r1', r2'⟩ := vals2 r
    cases r1'
    have e2 : u2 = Value.type (tyS t) := r2'
    subst e2
    refine PySem.W.kia_one PySem.W.kitx_dict I.kIn ⟨o, (I.hok a _ ha).1, hd.ex.1⟩ (kit_ty hk) (fun z => nomatch z) fun tk => ⟨.bl b, H, I.tok tk, rfl, q⟩
  | _ => exact hn.elim

/-! ### index, count -/
def r2m (S : St0) (g : D → D → Option D) : V → List V → Hp → VK → Prop := fun x ys H Q => ∃ F μ dx y dy d, ys = [y] ∧ Same F H ∧ Sv S F H μ dx x ∧ Sv S F H μ dy y ∧ g dx dy = some d ∧ ∀ v, Rep S F μ d v → Q v H
theorem inD_any {n : Nat} {d : D} (hd : sh n d = true) : ∀ {l : List D}, l.all (sh n) = true → ∀ j : Nat, (pys l)[j]? = (l[j]?).map py ∧ ∀ z, l[j]? = some z → eqD z d = PyData.eqv (py z) (py d)
  | l, hl, j => by
    refine ⟨by rw [pys_map, List.getElem?_map], fun z hz => ?_⟩
    exact eqD_eqv z d n n (List.all_eq_true.mp hl z (List.mem_of_getElem? hz)) hd
theorem mt_indexDD (A : Agree S X) (hu : X.A.units + 65 < cLine) : MtR X "list.index" (r2m S (mthD .index)) := by
  intro pins s σ H x ys v us Q I rx rxs h
  obtain ⟨F, μ, dx, y, dy, d, rfl, hF, hx, hy, e, q⟩ := h
  cases dx with
  | lst xs =>
    simp only [mthD] at e
    split at e
    · rename_i hz
      rw [Bool.and_eq_true] at hz
      cases hj : xs.findIdx? (fun z => eqD z dy) with
      | none => rw [hj] at e; cases e
      | some j =>
        rw [hj] at e
        simp only [Option.map_some, Option.some.injEq] at e
        subst e
        have p1 := hx.dp hF hz.2
        have p2 := hy.dp hF hz.1
        rw [A.K] at p1 p2
        obtain ⟨a, vs, rfl, ha, hvs⟩ := hx
        have hl : xs.all (sh 7) = true := by simpa [sh] using hz.2
        simp only [py] at p1
        obtain ⟨hjl, hje, hjn⟩ := List.findIdx?_eq_some_iff_getElem.mp hj
        refine mt_indexD hu pins s σ H _ _ v us Q I rx rxs ⟨a, y, py dy, pys xs, j, py xs[j], rfl, rfl, p1, p2, ?_, shaped_py hz.1 (by decide), ?_, ?_, fun m z' hm hz' => ?_, ?_⟩
        · have := shaped_py hz.2 (by decide); simpa only [py] using this
        · rw [(inD_any hz.1 hl j).1, List.getElem?_eq_getElem hjl]; rfl
        · rw [← (inD_any hz.1 hl j).2 xs[j] (List.getElem?_eq_getElem hjl)]; exact hje
        · rw [(inD_any hz.1 hl m).1] at hz'
          obtain ⟨z, hz1, rfl⟩ := Option.map_eq_some_iff.mp hz'
          rw [← (inD_any hz.1 hl m).2 z hz1]
          obtain ⟨hml, e1⟩ := List.getElem?_eq_some_iff.mp hz1
          have := hjn m hm
          rw [e1] at this
          simpa using this
        · exact q _ (by simp only [Rep])
    · cases e
  | _ => simp [mthD] at e
theorem plain_pys {n : Nat} (ih : ∀ d, sh n d = true → (py d).plain = true) : ∀ ds : List D, ds.all (sh n) = true → PyData.plainAll (pys ds) = true
  | [], _ => by simp [pys, PyData.plainAll]
  | d :: ds, h => by
    simp only [List.all_cons, Bool.and_eq_true] at h
    simp only [pys, PyData.plainAll, Bool.and_eq_true]
    exact ⟨ih d h.1, plain_pys ih ds h.2⟩
theorem plain_py : ∀ (n : Nat) (d : D), sh n d = true → (py d).plain = true := fun n => by
  induction n with
  | zero => intro d h; cases d <;> simp [sh] at h <;> simp [py, PyData.plain]
  | succ n ih =>
    intro d h
    cases d with
    | tup xs => simp only [py, PyData.plain]; exact plain_pys ih xs (by simpa [sh] using h)
    | lst xs => simp only [py, PyData.plain]; exact plain_pys ih xs (by simpa [sh] using h)
    | _ => simp [sh] at h <;> simp [py, PyData.plain]
theorem mt_countDD (A : Agree S X) (hu : X.A.units + 65 < cLine) : MtR X "list.count" (r2m S (mthD .count)) := by
  intro pins s σ H x ys v us Q I rx rxs h
  obtain ⟨F, μ, dx, y, dy, d, rfl, hF, hx, hy, e, q⟩ := h
  cases dx with
  | lst xs =>
    simp only [mthD] at e
    split at e
    · rename_i hz
      rw [Bool.and_eq_true] at hz
      simp only [Option.some.injEq] at e
      subst e
      have p1 := hx.dp hF hz.2
      have p2 := hy.dp hF hz.1
      rw [A.K] at p1 p2
      obtain ⟨a, vs, rfl, ha, hvs⟩ := hx
      have hl : xs.all (sh 7) = true := by simpa [sh] using hz.2
      simp only [py] at p1
      obtain ⟨u, rfl, ru⟩ := rxs.one
      cases rx
      obtain ⟨bs, r2⟩ := Dp.reads I _ y u p2 ru
      obtain ⟨as, r1⟩ := Dp.reads I _ _ (Value.ref a) p1 rfl
      cases r1 with
      | list h1 h2 h3 h4 =>
        refine PySem.SeqAt.count_list_data (l := a) ⟨_, h1, h2, _, h3⟩ h4 r2 (plain_pys (fun d h => plain_py 7 d h) xs hl) (plain_py 7 dy hz.1) ?_ ⟨.int _, H, I.tok _, ⟨_, rfl⟩, ?_⟩
        · have := depth_py 7 dy hz.1
          omega
        · have e1 : (pys xs).countP (fun y => PyData.eqv y (py dy)) = (xs.filter fun z => eqD z dy).length := by
            have gen : ∀ l : List D, l.all (sh 7) = true → (pys l).countP (fun y => PyData.eqv y (py dy)) = (l.filter fun z => eqD z dy).length := by
              intro l
              induction l with
              | nil => intro _; rfl
              | cons z l ih =>
                intro hl
                simp only [List.all_cons, Bool.and_eq_true] at hl
                simp only [pys, List.countP_cons, List.filter_cons, ih hl.2, ← eqD_eqv z dy 7 7 hl.1 hz.1]
                cases eqD z dy <;> simp
            exact gen xs hl
          rw [e1]
          exact q _ (by simp only [Rep])
    · cases e
  | _ => simp [mthD] at e
end
end R
end
section
set_option Elab.async false
set_option linter.all false
set_option maxRecDepth 100000
/-! RB6: what is gathered from a source (a list, a tuple, a dict's keys): sorted, tuple. -/
namespace R
open PySem PySem.Spec PyProof.Rows L2
section
variable {prog : Program} {w : World} {A : Around} {E : Value → Shared → Prop} {s : Shared}
/-- the source x gives the items vs, and all that was there is kept -/
def Brings (prog : Program) (w : World) (A : Around) (s : Shared) (x : Value) (vs : List Value) : Prop :=
  ∀ (E : Value → Shared → Prop) (Q : List Value → Shared → Prop), (∀ h' tk, (∀ b o, s.heap.get? b = some o → h'.get? b = some o) → Q vs { s with heap := h', toks := tk }) → wpAny (model prog w) A (collect x) Q E s
theorem brings_list {a : Addr} {vs : List Value} {o : Obj} {n : Nat} (ho : s.heap.get? a = some o) (hc : o.cls = .type "list") (hd : o.data = .seq vs.toArray n) (hz : vs.length ≤ sizeLine) : Brings prog w A s (.ref a) vs := fun E Q h => by
  refine wpAny_collect_seq (hsz := by rw [List.size_toArray]; exact hz) a (.inl rfl) ho hc hd fun h' k => ?_
  have := h h' s.toks k
  simpa using this
theorem brings_tuple {a : Addr} {vs : List Value} {o : Obj} {n : Nat} (ho : s.heap.get? a = some o) (hc : o.cls = .type "tuple") (hd : o.data = .seq vs.toArray n) (hz : vs.length ≤ sizeLine) : Brings prog w A s (.ref a) vs := fun E Q h => by
  refine wpAny_collect_seq (hsz := by rw [List.size_toArray]; exact hz) a (.inr rfl) ho hc hd fun h' k => ?_
  have := h h' s.toks k
  simpa using this
/-- a source that gives its items by an iterator over what is kept -/
theorem brings_src {T : String} {r d : Addr} {n : Nat} {f : Nat → Value → Prop} {OK : Heap → Prop} (K : PySem.W.KdlSrc prog w T r d n f OK) (hh : A.handled = none) (hok : OK s.heap) (hn : n ≤ sizeLine) {vs : List Value} (hvs : vs.length = n) (hf : ∀ i v, i < n → f i v → vs[i]? = some v) :
    Brings prog w A s (.ref r) vs := fun E Q h => by
  obtain ⟨hr, hd⟩ := K.there _ hok
  let st1 : Shared := { s with heap := s.heap.push { cls := .type "list", data := .seq ([] : List Value).toArray } }
  have up1 : ∀ b o, s.heap.get? b = some o → st1.heap.get? b = some o := fun b o e => Heap.get?_push_of_some _ e
  have at1 : st1.heap.get? s.heap.objs.size = some { cls := .type "list", data := .seq #[] } := Heap.get?_push_size _ rfl
  -- the end of the extension, whichever way it comes
  let End : Result → Shared → Prop := fun q s' => ∃ h' tk acc c, q = .ok (.ret (.ref s.heap.objs.size)) ∧ s' = { s with heap := h', toks := tk } ∧ (∀ b o, s.heap.get? b = some o → h'.get? b = some o) ∧
    h'.get? s.heap.objs.size = some { cls := .type "list", dict := none, data := .seq acc c, slots := #[] } ∧ acc.toList = vs
  have items : ∀ acc : Array Value, ItemsOf f acc n → acc.toList = vs := fun acc ha => by
    refine List.ext_getElem? fun i => ?_
    by_cases hi : i < n
    · have hs : i < acc.size := by rw [ha.1]; exact hi
      have q := ha.2 i acc[i] (by simp [hs])
      rw [hf i _ hi q]
      simp [hs]
    · have h1 : acc.toList.length = n := by rw [Array.length_toList]; exact ha.1
      rw [List.getElem?_eq_none (by omega), List.getElem?_eq_none (by omega)]
  have run := PySem.W.kdl_extend (A := A) (s := st1) (R := End) K hh (K.keep _ _ hok fun b _ o e => up1 b o e) s.heap.objs.size (Nat.ne_of_gt hr) (Nat.ne_of_gt hd) (.ref s.heap.objs.size) 0 at1
    (fun h' tk acc c k e i => ⟨h', tk, acc, c, rfl, rfl, fun b o g => k b o (Nat.ne_of_lt (Heap.lt_size g)) (up1 b o g), e, items acc i⟩) hn
  have last : ∀ h' tk acc c, (∀ b o, s.heap.get? b = some o → h'.get? b = some o) → h'.get? s.heap.objs.size = some { cls := .type "list", dict := none, data := .seq acc c, slots := #[] } → acc.toList = vs →
      wpAny (model prog w) A (load s.heap.objs.size >>= fun o => match o.data with | .seq xs _ => (pure xs.toList : Sem (List Value)) | _ => unsupported "internal:collect") Q E { s with heap := h', toks := tk } := fun h' tk acc c k e i => by
    refine wpAny_bind (wpAny_load e (wpAny_pure ?_))
    show Q acc.toList _
    rw [i]
    exact h h' tk k
  unfold collect
  refine wpAny_bind (wpAny_runValue (codeAny_builtin entry_proto_collect' ?_))
  rw [Around.under_plainId PySem.F.plain_proto_collect _]
  show wpAny _ A.in1 (newList [] >>= fun l => again (.builtin "list.__iadd__" ⟨[l, .ref r], []⟩)) _ _ s
  refine wpAny_bind (wpAny_newObj_type (wpAny_pure ⟨plainId_quiet PySem.F.plain_list_iadd _, codeAny_builtin entry_list_iadd' ?_⟩))
  rw [Around.under_plainId PySem.F.plain_list_iadd _]
  show wpAny _ A.in1 (Builtin.List.listExtendWith (.ref s.heap.objs.size) (.ref r) (.ref s.heap.objs.size)) _ _ st1
  refine wpAny_mono run (fun fin s' x => ?_) fun e s' x => ?_
  · cases fin with
    | done q =>
      obtain ⟨h', tk, acc, c, e, rfl, k, a, i⟩ := x
      cases e
      exact last h' tk acc c k a i
    | again c' =>
      refine ⟨x.1, codeAny_mono x.2 fun q s'' y => ?_⟩
      obtain ⟨h', tk, acc, c, rfl, rfl, k, a, i⟩ := y
      exact last h' tk acc c k a i
  · obtain ⟨_, _, _, _, e, _⟩ := x
    cases e
/-- sorted(x), by what list.sort does to the new list -/
theorem sorted_of {x : Value} {vs : List Value} {kw : List (Str × Value)} {Q : Value → Shared → Prop} (br : Brings prog w A.in1 s x vs) (hz : vs.length ≤ sizeLine) (a1 : argsOk "sorted" ⟨[x], kw⟩) (a2 : ∀ y, argsOk "list.sort" ⟨[.ref y], kw⟩)
    (body : ∀ (E' : Value → Shared → Prop) (h' : Heap) (tk : Nat), (∀ b o, s.heap.get? b = some o → h'.get? b = some o) →
      wpAny (model prog w) A.in1.in1 (Builtin.«list.sort» ⟨[.ref h'.objs.size], kw⟩) (fun f s' => f = .done (.ret .none) ∧ Q (.ref h'.objs.size) s') E' { s with heap := h'.push (seqObj "list" vs.toArray 0), toks := tk }) :
    wpAny (model prog w) A (call (.builtin "sorted") [x] kw) Q E s := by
  refine call_function_entry_kw kind_sorted plain_sorted entry_sorted a1 ?_
  unfold Builtin.«sorted»
  refine wpAny_bind (m := checkCount "sorted" 1 1 _) (wpAny_pure ?_)
  refine wpAny_bind (br _ _ fun h' tk k => wpAny_bind (wpAny_newList ?_ hz))
  refine wpAny_bind (wpAny_holding (wpAny_call_entry_kw slot_list_sort ⟨_, Heap.get?_push_size _ rfl, rfl⟩ entry_list_sort ?_ (a2 _)))
  refine wpAny_mono (body _ h' tk k) (fun f s' y => ?_) fun _ _ e => e
  obtain ⟨rfl, q⟩ := y
  exact ⟨_, rfl, wpAny_pure ⟨_, rfl, q⟩⟩
theorem collect_brings {x : Value} {vs : List Value} {Q : List Value → Shared → Prop} (br : Brings prog w A s x vs) (h : ∀ (h' : Heap) (tk : Nat), (∀ b o, s.heap.get? b = some o → h'.get? b = some o) → Q vs { s with heap := h', toks := tk }) :
    wpAny (model prog w) A (collect x) Q E s := br E Q h
theorem meets_tuple_view (r : Addr) (vs : List Value) : MeetsIn prog w (Builtin.«tuple.__new__» ⟨[.type "tuple", .ref r], []⟩) (fun A R s => s.TypeIs (.ref r) "dict_keys" ∧ Brings prog w A.in1 s (.ref r) vs ∧ vs.length ≤ sizeLine ∧
    ∀ (h' : Heap) (tk : Nat), (∀ b o, s.heap.get? b = some o → h'.get? b = some o) → R (.ok (.ret (.ref h'.objs.size))) { s with heap := h'.push { cls := .type "tuple", data := .seq vs.toArray }, toks := tk }) :=
  .of_wp fun A R s h => by
    obtain ⟨hp, g, d, tk, os⟩ := s
    obtain ⟨hT, br, hz, h⟩ := h
    have hsub := sub_tuple_self
    have hinit := init_tuple_lookup
    have hmh := madeHere_tuple
    wp_walk using wpAny_typeOf hT, collect_brings br
    intro h' tk' k
    show wpAny _ _ (Builtin.Tuple.tupleExact vs.toArray >>= fun v => PySem.ret v) _ _ _
    unfold Builtin.Tuple.tupleExact
    exact wpAny_bind (wpAny_newObj_type (wpAny_pure ⟨_, rfl, h h' tk' k⟩) (by show vs.toArray.size ≤ sizeLine; simpa using hz))
/-- tuple(d.keys()) -/
theorem tuple_of {r : Addr} {vs : List Value} {Q : Value → Shared → Prop} (hty : s.TypeIs (.ref r) "dict_keys") (br : Brings prog w A.in1.in1 s (.ref r) vs) (hz : vs.length ≤ sizeLine)
    (h : ∀ (h' : Heap) (tk : Nat), (∀ b o, s.heap.get? b = some o → h'.get? b = some o) → Q (.ref h'.objs.size) { s with heap := h'.push { cls := .type "tuple", data := .seq vs.toArray }, toks := tk }) :
    wpAny (model prog w) A (call (.type "tuple") [.ref r]) Q E s :=
  callType_newIn PySem.F.called_tuple (by decide) (PySem.F.typeCall_tuple_1 _) (PySem.F.newCall_tuple_1 _) (fun obj => PySem.F.args_object_init_2 obj _) PySem.F.entry_tuple_new (meets_tuple_view r vs)
    ⟨hty, br, hz, fun h' tk k => ⟨⟨_, Heap.get?_push_size _ rfl, rfl⟩, h h' tk k⟩⟩
end
end R
end
section
set_option Elab.async false
set_option linter.all false
set_option maxRecDepth 100000
/-! RB7: sorted, of data. -/
namespace R
open PySem PySem.Spec PyProof.Rows L2
/-- a value that stands for a datum -/
def IsD (S : St0) (F : Hp) (μ : List Addr) (u : Value) (d : D) : Prop := ∃ x, RelV x u ∧ Rep S F μ d x
section
variable {S : St0} {X : Cx} {F : Hp} {μ : List Addr}
theorem isD_of : ∀ {ds : List D} {vs : List V} {us : List Value}, Reps S F μ ds vs → Vals vs us → PySem.W.EachIs (IsD S F μ) us ds
  | [], _, _, h, r => by rw [h.inv0] at r; cases r; exact .nil
  | d :: ds, _, _, h, r => by
    obtain ⟨v, t, rfl, h1, h2⟩ := h.inv
    cases r with
    | cons r1 r2 => exact .cons ⟨v, r1, h1⟩ (isD_of h2 r2)
theorem of_isD : ∀ {ds : List D} {us : List Value}, PySem.W.EachIs (IsD S F μ) us ds → ∃ vs, Reps S F μ ds vs ∧ Vals vs us
  | [], _, h => by cases h; exact ⟨[], Reps.nil, .nil⟩
  | d :: ds, _, h => by
    cases h with
    | cons h1 h2 =>
      obtain ⟨x, r, p⟩ := h1
      obtain ⟨vs, a, b⟩ := of_isD h2
      exact ⟨x :: vs, Reps.cons p a, .cons r b⟩
theorem isD_reads (A : Agree S X) {H : Hp} {pins : List (Addr × Obj)} {σ : L2.St} {s : Shared} (hF : Same F H) (I : Inv X pins σ H s) {n : Nat} : ∀ {ds : List D} {us : List Value}, ds.all (sh n) = true → PySem.W.EachIs (IsD S F μ) us ds → PySem.W.EachIs (fun v b => ∃ as, Reads s.heap v (py b) as) us ds
  | [], _, _, h => by cases h; exact .nil
  | d :: ds, _, e, h => by
    simp only [List.all_cons, Bool.and_eq_true] at e
    cases h with
    | cons h1 h2 =>
      obtain ⟨x, r, p⟩ := h1
      have q := Rep.dp hF n d x e.1 p
      rw [A.K] at q
      exact .cons (Dp.reads I _ _ _ q r) (isD_reads A hF I e.2 h2)
theorem alike_of {ds : List D} (h : ds.all (sh 8) = true) (k : ds.all (fun a => ds.all (alk a)) = true) : PySem.W.AllAlike (ds.map py) := by
  intro d hd d' hd'
  obtain ⟨a, ha, rfl⟩ := List.mem_map.mp hd
  obtain ⟨b, hb, rfl⟩ := List.mem_map.mp hd'
  rw [alk_alike a b 8 8 (List.all_eq_true.mp h a ha) (List.all_eq_true.mp h b hb)]
  exact List.all_eq_true.mp (List.all_eq_true.mp k a ha) b hb
theorem sortable_of {ds : List D} (h : ds.all (sh 8) = true) (k : (ds.all isTupC || ds.all isPlainC) = true) : PySem.W.Sortable (ds.map py) := by
  rw [Bool.or_eq_true] at k
  rcases k with k | k
  · refine .inl fun d hd => ?_
    obtain ⟨a, ha, rfl⟩ := List.mem_map.mp hd
    have := List.all_eq_true.mp k a ha
    cases a <;> simp [isTupC] at this
    rename_i xs
    cases xs with
    | nil => simp [isTupC] at this
    | cons x r => exact ⟨py x, pys r, by simp [py, pys]⟩
  · refine .inr fun d hd => ?_
    obtain ⟨a, ha, rfl⟩ := List.mem_map.mp hd
    have h1 := List.all_eq_true.mp k a ha
    have h2 := List.all_eq_true.mp h a ha
    cases a <;> simp [isPlainC] at h1 <;> simp [sh] at h2 <;> simp [py]
theorem sortable_parts {kz : List D} (h : sortable kz = true) : kz.all (sh 8) = true ∧ kz.all (fun a => kz.all (alk a)) = true ∧ (kz.all isTupC || kz.all isPlainC) = true := by
  simp only [sortable, Bool.and_eq_true] at h
  exact ⟨h.1.1, h.1.2, h.2⟩
theorem zip_same {α : Type} : ∀ {l : List α} {p : α × α}, p ∈ l.zip l → p.1 = p.2
  | [], p, h => by simp at h
  | x :: l, p, h => by
    rw [List.zip_cons_cons] at h
    rcases List.mem_cons.mp h with rfl | h
    · rfl
    · exact zip_same h
/-- sorted by themselves -/
theorem sortBy_self {xs ys : List D} (h : sortBy xs xs = some ys) : sortable xs = true ∧ xs.length ≤ sizeLine ∧ ys = xs.mergeSort (PySem.W.dataLe false py) := by
  unfold sortBy at h
  split at h
  · rename_i hz
    rw [Bool.and_eq_true] at hz
    refine ⟨hz.1, szOk_le hz.2, ?_⟩
    obtain ⟨h1, h2, _⟩ := sortable_parts hz.1
    simp only [Option.some.injEq] at h
    rw [← h]
    have e : ((xs.zip xs).map (·.2)) = xs := by rw [List.map_snd_zip]; exact Nat.le_refl _
    have m := PySem.W.sort_maps (r := leK) (s := PySem.W.dataLe false py) (fun p : D × D => p.2) (l := xs.zip xs) fun p hp q hq => by
      have mp : p.2 ∈ xs := (List.of_mem_zip hp).2
      have mq : q.2 ∈ xs := (List.of_mem_zip hq).2
      show (!ltD q.1 p.1) = (!PySem.W.dataLt (py q.2) (py p.2))
      rw [zip_same hp, zip_same hq, ltD_data q.2 p.2 8 8 (List.all_eq_true.mp h1 _ mq) (List.all_eq_true.mp h1 _ mp) (List.all_eq_true.mp (List.all_eq_true.mp h2 _ mq) _ mp)]
    rw [e] at m
    exact m
  · cases h
/-- a new list, sorted -/
theorem sort_new (A : Agree S X) (hu : X.A.units + 65 < cLine) {H : Hp} {pins : List (Addr × Obj)} {σ : L2.St} {s : Shared} {us : List Value} {xs ys : List D} {Q : VK} (hF : Same F H) (I : Inv X pins σ H s) (e : PySem.W.EachIs (IsD S F μ) us xs) (hy : sortBy xs xs = some ys)
    (q : ∀ p vs, H p = none → Reps S F μ ys vs → Q (.ref p) (upd H p (.lst vs))) (E' : Value → Shared → Prop) :
    wpAny (model X.prog X.w) X.A.in1.in1 (Builtin.«list.sort» ⟨[.ref s.heap.objs.size], []⟩) (fun f s' => f = .done (.ret .none) ∧ EP X pins σ Q (.ref s.heap.objs.size) s') E' { s with heap := s.heap.push (seqObj "list" us.toArray 0) } := by
  obtain ⟨hs, hz, rfl⟩ := sortBy_self hy
  obtain ⟨h1, h2, h3⟩ := sortable_parts hs
  have el := e.length
  have er := isD_reads A hF I h1 e
  have at1 : (s.heap.push (seqObj "list" us.toArray 0)).get? s.heap.objs.size = some (seqObj "list" us.toArray 0) := Heap.get?_push_size _ rfl
  have old : ∀ b o, s.heap.get? b = some o → (s.heap.push (seqObj "list" us.toArray 0)).get? b = some o := fun b o g => Heap.get?_push_of_some _ g
  have nb : ∀ {b : Addr} {o : Obj}, s.heap.get? b = some o → b ≠ s.heap.objs.size := fun g => Nat.ne_of_lt (Heap.lt_size g)
  have gone : s.heap.get? s.heap.objs.size = none := by
    cases z : s.heap.get? s.heap.objs.size with
    | none => rfl
    | some o => exact absurd rfl (nb z)
  have er' : PySem.W.EachIs (fun v b => ∃ as, Reads (PySem.W.sortingHeap (s.heap.push (seqObj "list" us.toArray 0)) s.heap.objs.size us) v (py b) as) us xs := er.mono fun _ _ ⟨as, r⟩ => ⟨as, PyProof.Rows.Reads.keeps (fun b o => fun g => PySem.W.sortingHeap_old (nb g) (old b o g)) r⟩
  have hal := alike_of h1 h2
  refine PySem.W.list_sort_vals (s := { s with heap := s.heap.push (seqObj "list" us.toArray 0) }) at1 (PySem.W.SortsAt.data (s := { s with heap := PySem.W.sortingHeap (s.heap.push (seqObj "list" us.toArray 0)) s.heap.objs.size us }) (PySem.W.each_map (R := fun v d => ∃ as, Reads (PySem.W.sortingHeap (s.heap.push (seqObj "list" us.toArray 0)) s.heap.objs.size us) v d as) py er') hal (sortable_of h1 h3) (PySem.W.bound_map fun b hb => ?_)) (by omega) ⟨rfl, ?_⟩
  · have := depth_py 8 b (List.all_eq_true.mp h1 b hb)
    show X.A.units + 2 + _ < cLine
    omega
  · have out := PySem.W.sortVals_data false e er' hal
    obtain ⟨vs, r, rv⟩ := of_isD out
    obtain ⟨c, hc⟩ := sortedHeap_at (vs := us) (out := (PySem.W.sortVals (PySem.W.dataKind (PySem.W.sortingHeap (s.heap.push (seqObj "list" us.toArray 0)) s.heap.objs.size us) (xs.map py)) false us us).toArray) at1
    have hp : H s.heap.objs.size = none := I.hok.gone gone
    refine ⟨.ref s.heap.objs.size, _, I.laidN (a := s.heap.objs.size) (o := .lst vs) (t' := s.toks) (fun b o g => ?_) gone hp ⟨?_, _, c, rv, hc⟩, rfl, q _ vs hp r⟩
    · show (sortedHeap (s.heap.push (seqObj "list" us.toArray 0)) s.heap.objs.size us _).get? b = some o
      rw [sortedHeap_old (nb g) (by rw [size_push']; exact Nat.lt_succ_of_lt (Heap.lt_size g))]
      exact old b o g
    · rw [r.length, List.length_mergeSort]
      exact hz
/-- sorted(x): the source's items, by their own order -/
theorem sorted_data_of (A : Agree S X) (hu : X.A.units + 65 < cLine) {H : Hp} {pins : List (Addr × Obj)} {σ : L2.St} {s : Shared} {x : Value} {us : List Value} {xs ys : List D} {Q : VK} (hF : Same F H) (I : Inv X pins σ H s) (br : Brings X.prog X.w X.A.in1 s x us) (e : PySem.W.EachIs (IsD S F μ) us xs) (hy : sortBy xs xs = some ys)
    (q : ∀ p vs, H p = none → Reps S F μ ys vs → Q (.ref p) (upd H p (.lst vs))) : wpAny (model X.prog X.w) X.A (call (.builtin "sorted") [x]) (EP X pins σ Q) X.xe s := by
  have hz := (sortBy_self hy).2.1
  have el := e.length
  exact sorted_of br (by omega) (args_sorted1 _) (fun _ => args_list_sort _) fun E' h' tk k => sort_new A hu hF (I.kept (t' := tk) k) e hy q E'
end
end R
end
section
set_option Elab.async false
set_option linter.all false
set_option maxRecDepth 100000
/-! RS1: set(xs) of a list: what its loop keeps, in general. -/
namespace R
open PySem PySem.Spec PyProof.Rows L2
/-- the object of a new set -/
abbrev newSet (w : World) : Obj := { cls := .type "set", dict := none, data := .set #[] 0 (.fresh 0 0 (!w.params.followText "set-order")) }
section
variable {P : Program} {w : World} {A : Around} {E : Value → Shared → Prop} {s : Shared}
/-- the loop: Iv i is what holds of the set behind i items -/
theorem set_loop {I : Addr} {fp wr : List Addr} {G : Array GenState → Array GenState → Prop} {n : Nat} {Pv : Nat → Value → Prop} {St : Nat → Shared → Prop} {R : Result → Shared → Prop} (W : WalksS P w A.in1 I fp wr G n Pv St) (Z : Addr) (hZ : Z ∉ fp)
    (Iv : Nat → Heap → Prop) (fr : ∀ i h h', Iv i h → (∀ b o, b ∉ wr → h.get? b = some o → h'.get? b = some o) → Iv i h')
    (add : ∀ i v (s : Shared) (Q : Bool → Shared → Prop) (E : Value → Shared → Prop), i < n → Pv i v → Iv i s.heap → (∀ b h' tk, Heap.SameBut Z s.heap h' → s.toks ≤ tk → Iv (i + 1) h' → Q b { s with heap := h', toks := tk }) → wpAny (model P w) A.in1 (setAdd Z v) Q E s) :
    ∀ (k i : Nat) (s : Shared), n - i = k → i ≤ n → St i s → Iv i s.heap → (∀ s', Moved (Z :: wr) G s s' → Iv n s'.heap → R (.ok (.ret .none)) s') →
      codeAny (model P w) A (.builtin "set.update.loop" ⟨[.ref Z, .ref I], []⟩) R s := by
  have hw : Z ∉ wr := fun h => hZ (W.sub _ h)
  have sub : ∀ b ∈ wr, b ∈ Z :: wr := fun b hb => List.mem_cons_of_mem _ hb
  intro k
  induction k with
  | zero =>
    intro i s hk hi hst iv hR
    obtain rfl : i = n := by omega
    refine codeAny_builtin F.entry_set_update_loop ?_
    rw [Around.under_plainId F.plain_set_update_loop _]
    show wpAny _ A.in1 (pyNext (.ref I) >>= _) _ _ s
    exact wpAny_bind (W.done s _ _ hst fun s' hm => wpAny_pure (hR s' (hm.mono sub) (fr _ _ _ iv fun b o hb e => hm.heap b o hb e)))
  | succ k ih =>
    intro i s hk hi hst iv hR
    have lt : i < n := by omega
    refine codeAny_builtin F.entry_set_update_loop ?_
    rw [Around.under_plainId F.plain_set_update_loop _]
    show wpAny _ A.in1 (pyNext (.ref I) >>= _) _ _ s
    refine wpAny_bind (W.item i s _ _ lt hst fun v s' hP hst' hm => ?_)
    have iv' := fr _ _ _ iv fun b o hb e => hm.heap b o hb e
    show wpAny _ A.in1 (holding [v] (setAdd Z v) >>= _) _ _ s'
    refine wpAny_bind (wpAny_holding (add i v s' _ _ lt hP iv' fun b h' tk sb tkle iv2 => ?_))
    refine wpAny_pure ⟨plainId_quiet F.plain_set_update_loop _, ih (i + 1) _ (by omega) lt (W.frame _ s' _ _ hst' tkle fun b hb o e => ?_) iv2 fun s'' hm2 iv3 => ?_⟩
    · rw [sb.2 b fun h : b = Z => hZ (h ▸ hb)]; exact e
    · refine hR s'' (Moved.trans W.gtrans ((hm.mono sub).then_heap tkle fun b o hb e => ?_) hm2) iv3
      rw [sb.2 b fun h : b = Z => hb (by rw [h]; exact List.mem_cons_self)]; exact e
set_option maxHeartbeats 3200000 in
/-- set(xs): xs a list -/
theorem set_call {l : Addr} {items : Array Value} {Q : Value → Shared → Prop} (hh : A.handled = none) (hl : s.heap.IsList l items) (Iv : Nat → Heap → Prop)
    (fr : ∀ i h h', Iv i h → (∀ b o, b ≠ s.heap.objs.size + 1 → h.get? b = some o → h'.get? b = some o) → Iv i h')
    (new : ∀ h, (∀ b o, s.heap.get? b = some o → h.get? b = some o) → h.get? s.heap.objs.size = some (newSet w) → Iv 0 h)
    (add : ∀ i v (s' : Shared) (A' : Around) (Q : Bool → Shared → Prop) (E : Value → Shared → Prop), A'.units ≤ A.units + 4 → items[i]? = some v → Iv i s'.heap → (∀ b h' tk, Heap.SameBut s.heap.objs.size s'.heap h' → s'.toks ≤ tk → Iv (i + 1) h' → Q b { s' with heap := h', toks := tk }) → wpAny (model P w) A' (setAdd s.heap.objs.size v) Q E s')
    (h : ∀ (h' : Heap) (tk : Nat), Iv items.size h' → (∀ b o, s.heap.get? b = some o → h'.get? b = some o) → Q (.ref s.heap.objs.size) { s with heap := h', toks := tk }) :
    wpAny (model P w) A (call (.type "set") [.ref l]) Q E s := by
  obtain ⟨c, tl, hmro⟩ := F.called_set.mro
  have hmade := F.called_set.made
  have hsub := F.called_set.sub
  refine wpAny_call (codeAny_of_tree ?_)
  show wpAny _ _ (callAny (.type "set") _) _ _ _
  refine wpAny_pure ⟨Code.quiet_builtin _ (by decide +kernel), codeAny_builtin F.entry_type_call ?_⟩
  rw [Around.under_plain (weight_type_call_type "set" [.ref l] []) rfl]
  have h1 := F.called_set.notType
  have h2 := F.called_set.canCreate
  have hct := F.typeCall_set_1 (.ref l)
  repeat (any_goals (first | assumption | wp_step))
  refine codeAny_mono (code_set_led1 (.ref l) (E := E) (Q₁ := fun obj s₁ => obj = .ref s.heap.objs.size ∧ s₁ = { s with heap := s.heap.push (newSet w) }) ⟨rfl, rfl⟩) fun r s₁ hr => ?_
  cases r with
  | error e => exact hr
  | ok fl =>
    cases fl with
    | ret obj =>
      obtain ⟨rfl, rfl⟩ := hr
      have hS : (s.heap.push (newSet w)).get? s.heap.objs.size = some (newSet w) := Heap.get?_push_size _ rfl
      have hT : Shared.TypeIs { s with heap := s.heap.push (newSet w) } (.ref s.heap.objs.size) "set" := ⟨_, hS, rfl⟩
      have hli := F.called_set.init.lookup
      have hbi := F.called_set.init.bind (.ref s.heap.objs.size)
      repeat (any_goals (first | assumption | wp_step))
      refine codeAny_mono (codeAny_call_builtin (R := wants (fun r s₂ => r = .none ∧ ∃ h' tk, s₂ = { s with heap := h', toks := tk } ∧ Iv items.size h' ∧ (∀ b o, s.heap.get? b = some o → h'.get? b = some o)) E) F.called_set.init.plain F.entry_set_init (check_set_init_1 hT ?_)) fun r₂ s₂ hr₂ => ?_
      · obtain ⟨ol, hol, hcl, nl, hdl⟩ := hl
        obtain ⟨ocls, odict, odata, oslots⟩ := ol
        simp only at hcl hdl
        subst hcl; subst hdl
        have hol' : (s.heap.push (newSet w)).get? l = some { cls := .type "list", dict := odict, data := .seq items nl, slots := oslots } := Heap.get?_push_of_some _ hol
        have hsls := F.sub_list_set
        have hslf := F.sub_list_frozenset
        have hne : (Value.type "list" == Value.type "dict") = false := by decide
        have hl1 : (s.heap.push (newSet w)).IsList l items := ⟨_, hol', rfl, nl, rfl⟩
        unfold Builtin.«set.__init__» noKeywords Builtin.Frozenset.updateFrom
        generalize hPI : pyIter = PI
        wp_walk
        subst hPI
        refine wpAny_pyIter_list hl1 ?_
        refine wpAny_bind (wpAny_runValue ?_)
        have lt : l < s.heap.objs.size := Heap.lt_size hol
        have hh3 : A.in1.in1.in1.handled = none := by simp [hh]
        have sz : (s.heap.push (newSet w)).objs.size = s.heap.objs.size + 1 := Heap.size_push ..
        have up : ∀ b o, s.heap.get? b = some o → ((s.heap.push (newSet w)).push { cls := .type "list_iterator", data := .fields #[.ref l, .int 0 0] }).get? b = some o := fun b o e => Heap.get?_push_of_some _ (Heap.get?_push_of_some _ e)
        refine set_loop ((Walks.list hh3 _ l (by rw [sz]; exact Nat.ne_of_lt (Nat.lt_succ_of_lt lt)) items).toS) s.heap.objs.size (by rw [sz]; simp only [List.mem_cons, List.not_mem_nil, or_false, not_or]; exact ⟨Nat.ne_of_lt (Nat.lt_succ_self _), Nat.ne_of_gt lt⟩) (fun i h => Iv i h ∧ ∀ b o, s.heap.get? b = some o → h.get? b = some o) (fun i h h' q k => ?fr) (fun i v s' Q' E' hi hv q k => ?add)
          (items.size - 0) 0 _ rfl (Nat.zero_le _) ⟨⟨_, Heap.get?_push_size _ rfl, rfl, rfl⟩, (hl1.push _)⟩ ⟨new _ up (Heap.get?_push_of_some _ hS), up⟩ fun s' hm q => ?fin
        case fr =>
          rw [sz] at k
          have k' : ∀ b o, b ≠ s.heap.objs.size + 1 → h.get? b = some o → h'.get? b = some o := fun b o hb e => k b o (by simpa using hb) e
          exact ⟨fr _ _ _ q.1 k', fun b o e => k' b o (Nat.ne_of_lt (Nat.lt_succ_of_lt (Heap.lt_size e))) (q.2 b o e)⟩
        case add =>
          exact add i v s' _ Q' E' (by simp) hv q.1 fun b h' tk sb tkle iv => k b h' tk sb tkle ⟨iv, fun b o e => by rw [sb.2 b (Nat.ne_of_lt (Heap.lt_size e))]; exact q.2 b o e⟩
        case fin =>
          obtain ⟨h', g2, d', tk', os'⟩ := s'
          have eg : g2 = s.gens := hm.gens
          have ed : d' = s.drawn := hm.drawn
          have eo : os' = s.os := hm.os
          subst eg; subst ed; subst eo
          show wpAny _ _ _ _ _ _
          refine wpAny_pure ?_
          show wpAny _ _ (PySem.ret Value.none) _ _ _
          exact wpAny_pure ⟨rfl, h', tk', rfl, q.1, q.2⟩
      · cases r₂ with
        | error e => exact hr₂
        | ok fl₂ =>
          cases fl₂ with
          | ret r =>
            obtain ⟨rfl, h', tk, rfl, hS', hk'⟩ := hr₂
            repeat (any_goals (first | assumption | wp_step))
            exact h _ _ hS' hk'
          | _ => exact hr₂.elim
    | _ => exact hr.elim
end
end R
end
section
set_option Elab.async false
set_option linter.all false
set_option maxRecDepth 100000
/-! RS2: set(xs) of ints, of tuples of ints; sorted(set), len(set). -/
namespace R
open PySem PySem.Spec PyProof.Rows L2
/-- the set at a has the values us, in its order -/
def SetD (w : World) (h : Heap) (a : Addr) (us : List Value) : Prop :=
  ∃ o es ep t, h.get? a = some o ∧ o.ExactSet ∧ o.data = .set es ep t ∧ es.toList.map (·.2) = us ∧ us.length < scanBound ∧ t.fits es.size = true ∧ Ris t.place.toList ∧ (w.params.followText "set-order" = true ∨ t.led = true)
def sto (w : World) (a : Addr) (vs : List V) : HO := .ext fun h => ∃ us, Vals vs us ∧ SetD w h a us
section
variable {P : Program} {w : World} {A : Around} {E : Value → Shared → Prop} {s : Shared} {X : Cx}
theorem SetD.at {h h' : Heap} {a : Addr} {us : List Value} (R : SetD w h a us) (k : ∀ o, h.get? a = some o → h'.get? a = some o) : SetD w h' a us := by
  obtain ⟨o, es, ep, t, ho, r⟩ := R
  exact ⟨o, es, ep, t, k o ho, r⟩
theorem sto_new {H : Hp} {h : Heap} {a : Addr} {vs : List V} {us : List Value} (R : SetD w h a us) (r : Vals vs us) : ObjOk P w H h a (sto w a vs) := by
  refine ⟨⟨us, r, R⟩, ?_, fun h1 h2 ⟨us, r, R⟩ k => ⟨us, r, R.at k⟩⟩
  obtain ⟨o, es, ep, t, ho, _⟩ := R
  exact ⟨o, ho⟩
/-- ints -/
theorem setR_data {h : Heap} {a : Addr} {S : Int → Bool} {n : Nat} (R : SetR w h a S n) : ∃ (ks : List Int) (us : List Value), SetD w h a us ∧ Vals (ks.map V.int) us ∧ ks.Nodup ∧ ∀ k, S k = true ↔ k ∈ ks := by
  obtain ⟨o, es, ep, t, ho, hx, hd, g, nd, hm, hb, hf, hn, hr, hl⟩ := R
  refine ⟨es.toList.map keyOf, es.toList.map (·.2), ⟨o, es, ep, t, ho, hx, hd, rfl, by simpa using hb, hf, hr, hl⟩, ?_, nd, hm⟩
  have gen : ∀ l : List (Int × Value), (∀ e ∈ l, GoodE e) → Vals ((l.map keyOf).map V.int) (l.map (·.2)) := by
    intro l
    induction l with
    | nil => exact fun _ => .nil
    | cons e l ih =>
      intro g
      obtain ⟨k, tk, h1, h2⟩ := g e List.mem_cons_self
      have ek : keyOf e = k := by unfold keyOf; rw [h1]
      simp only [List.map_cons]
      refine .cons ?_ (ih fun x hx => g x (List.mem_cons_of_mem _ hx))
      rw [ek, h1]
      exact ⟨tk, rfl⟩
  exact gen _ g
def rSetI (K : PySem.W.Frag) (w : World) : List V → Hp → VK → Prop := fun xs H Q => ∃ (l : Addr) (ns : List Int), xs = [V.ref l] ∧ SqL K H l (ns.map V.int) ∧ ns.length ≤ 1000 ∧
  ∀ (a : Addr) (ks : List Int), H a = none → ks.Nodup → (∀ k, k ∈ ns ↔ k ∈ ks) → Q (.ref a) (upd H a (sto w a (ks.map V.int)))
theorem cr_setI (hc : X.A.handled = none) : CallR X (.type "set") (rSetI X.K X.w) := by
  intro pins s σ H xs us Q I r h
  obtain ⟨l, ns, rfl, hl, hz, q⟩ := h
  rw [Vals.ref1 r]
  obtain ⟨its, rv, pl, hz2⟩ := I.list hl
  have hi := ints_of_vals rv
  have hlen : its.length = ns.length := by rw [← rv.length, List.length_map]
  have sb : (1001 : Nat) < scanBound := by unfold scanBound; omega
  refine set_call hc pl.isList (fun i h => ∃ c, c ≤ i ∧ SetR X.w h s.heap.objs.size (fun j => decide (j ∈ ns.take i)) c) (fun i h h' ⟨c, hc, R⟩ k => ⟨c, hc, R.at fun o e => k _ o (Nat.ne_of_lt (Nat.lt_succ_self _)) e⟩)
    (fun h _ ho => ⟨0, Nat.le_refl _, setR_new_at ho⟩) (fun i v s' A' Q' E' _ hv ⟨c, hc, R⟩ k => ?_) fun h' tk ⟨c, hc, R⟩ kp => ?_
  · have hv' : its[i]? = some v := by simpa using hv
    obtain ⟨z, hz1, t, rfl⟩ : ∃ z, ns[i]? = some z ∧ ∃ t, v = .int z t := by
      have li : i < ns.length := by rw [← hlen]; exact (List.getElem?_eq_some_iff.mp hv').1
      obtain ⟨t, e⟩ := PyProof.Rows.IntsAre.int_at hi i v (by simpa using hv')
      refine ⟨ns[i], List.getElem?_eq_getElem li, t, ?_⟩
      rw [e, List.getD_eq_getElem?_getD, List.getElem?_eq_getElem li] <;> rfl
    have li : i < ns.length := (List.getElem?_eq_some_iff.mp hz1).1
    unfold setAdd
    refine wpAny_holding ?_
    refine wpAny_bind ((intKind X.prog X.w).pyHash (k := z) (intKind_is _ _ _ _) ?_)
    refine setR_add_hashed (s := { s' with toks := s'.toks + 1 }) R (by omega) fun h' sb R2 => ?_
    refine k _ h' _ sb (Nat.le_succ _) ⟨_, ?_, R2.congr fun j => ?_⟩
    · split <;> omega
    · rw [List.take_add_one, hz1]
      simp [List.mem_append]
  · have e : ns.take its.toArray.size = ns := List.take_of_length_le (by simp [hlen])
    rw [e] at R
    obtain ⟨ks, us, R1, r1, nd, hm⟩ := setR_data R
    have hn : H s.heap.objs.size = none := I.hok.fresh (Nat.le_refl _)
    exact ⟨.ref s.heap.objs.size, _, I.laid (o := sto X.w s.heap.objs.size (ks.map V.int)) (t' := tk) kp (Nat.le_refl _) (sto_new R1 r1), rfl, q _ ks hn nd fun k => by rw [← hm k]; simp⟩
theorem nodup_len {α : Type} [DecidableEq α] : ∀ {l D : List α}, l.Nodup → (∀ x ∈ l, x ∈ D) → l.length ≤ D.length
  | [], _, _, _ => Nat.zero_le _
  | x :: l, D, nd, h => by
    rw [List.nodup_cons] at nd
    have hx := h x List.mem_cons_self
    have := nodup_len (D := D.erase x) nd.2 fun y hy => (List.mem_erase_of_ne fun e => nd.1 (by rw [← e]; exact hy)).mpr (h y (List.mem_cons_of_mem _ hy))
    rw [List.length_erase_of_mem hx] at this
    have : 0 < D.length := List.length_pos_of_mem hx
    simp only [List.length_cons]
    omega
theorem setT_data (s : Shared) {a : Addr} {L : List (Addr × List Int)} {es : Array (Int × Value)} {ep : Nat} {t : SetTable} (R : SetTR P w s.heap a L es ep t) : SetD w s.heap a (L.map fun p => Value.ref p.1) := by
  obtain ⟨o, ho, hx, hd⟩ := R.ob
  refine ⟨o, es, ep, t, ho, hx, hd, ?_, ?_, SetTR.fits R, R.tab.ris, R.led⟩
  · rw [R.rows]
    unfold rowsOf
    rw [List.map_map] <;> rfl
  · have := R.few
    rw [List.length_map]
    unfold scanBound
    omega
def rSetT (K : PySem.W.Frag) (w : World) : List V → Hp → VK → Prop := fun xs H Q => ∃ (l : Addr) (ks : List (Addr × List Int)) (D : List (List Int)), xs = [V.ref l] ∧ SqL K H l (ks.map fun p => V.ref p.1) ∧ (∀ p ∈ ks, SqT K H p.1 (p.2.map V.int)) ∧ (∀ p ∈ ks, p.2 ∈ D) ∧ D.length < 63 ∧
  ∀ (a : Addr) (L : List (Addr × List Int)), H a = none → (L.map (·.2)).Nodup → (∀ p ∈ L, p ∈ ks) → (∀ p ∈ ks, p.2 ∈ L.map (·.2)) → Q (.ref a) (upd H a (sto w a (L.map fun p => V.ref p.1)))
theorem cr_setT (hc : X.A.handled = none) (hu : X.A.units + 65 < cLine) : CallR X (.type "set") (rSetT X.K X.w) := by
  intro pins s σ H xs us Q I r h
  obtain ⟨l, ks, D, rfl, hl, hk, hD, hf, q⟩ := h
  rw [Vals.ref1 r]
  obtain ⟨its, rv, pl, hz2⟩ := I.list hl
  have eits : its = ks.map fun p => Value.ref p.1 := refs_of_vals rv
  subst eits
  have isT : ∀ p ∈ ks, IsT X.prog X.w s.heap p.2 p.1 := fun p hp => I.isT (hk p hp)
  have old : ∀ p ∈ ks, p.1 < s.heap.objs.size := fun p hp => by
    obtain ⟨o, items, n, ho, _⟩ := isT p hp
    exact Heap.lt_size ho
  have sub : ∀ {i : Nat} {L : List (Addr × List Int)}, Got ks i L → ∀ p ∈ L, p ∈ ks := fun g p hp => List.mem_of_mem_take (g.sub p hp)
  have keepT : ∀ {h h' : Heap} {p : Addr × List Int}, IsT X.prog X.w h p.2 p.1 → (∀ o, h.get? p.1 = some o → h'.get? p.1 = some o) → IsT X.prog X.w h' p.2 p.1 := fun x k => by
    obtain ⟨o, items, n, ho, r⟩ := x
    exact ⟨o, items, n, k o ho, r⟩
  refine set_call hc pl.isList (fun i h => (∃ L es ep t, SetTR X.prog X.w h s.heap.objs.size L es ep t ∧ Got ks i L) ∧ ∀ p ∈ ks, IsT X.prog X.w h p.2 p.1)
    (fun i h h' ⟨⟨L, es, ep, t, R, g⟩, hT⟩ k => ?_) (fun h kp ho => ⟨⟨[], #[], 0, _, setTR_fresh ho, Got.zero ks⟩, fun p hp => keepT (isT p hp) fun o e => kp _ o e⟩)
    (fun i v s' A' Q' E' hA hv ⟨⟨L, es, ep, t, R, g⟩, hT⟩ k => ?_) fun h' tk ⟨⟨L, es, ep, t, R, g⟩, hT⟩ kp => ?_
  · have hT' : ∀ p ∈ ks, IsT X.prog X.w h' p.2 p.1 := fun p hp => keepT (hT p hp) fun o e => k _ o (Nat.ne_of_lt (Nat.lt_succ_of_lt (old p hp))) e
    exact ⟨⟨L, es, ep, t, R.keep (fun o e => k _ o (Nat.ne_of_lt (Nat.lt_succ_self _)) e) fun p hp => hT' p (sub g p hp), g⟩, hT'⟩
  · have hv' : (ks.map fun p => Value.ref p.1)[i]? = some v := by simpa using hv
    rw [List.getElem?_map, Option.map_eq_some_iff] at hv'
    obtain ⟨p, hp, rfl⟩ := hv'
    have hpk := List.mem_of_getElem? hp
    unfold setAdd
    refine wpAny_holding ?_
    refine wpAny_bind (wpAny_pyHash_tuple (by omega) (hT p hpk) ?_)
    have few := nodup_len (l := L.map (·.2)) (D := D) R.nd fun x hx => by
      obtain ⟨y, hy, rfl⟩ := List.mem_map.mp hx
      exact hD y (sub g y hy)
    rw [List.length_map] at few
    refine add_at (s := { s' with toks := s'.toks + (p.2.length + 1) }) R (hT p hpk) (by omega) (by omega) fun b h' L' es' ep' t' sb R2 c1 c2 => ?_
    have g' : Got ks (i + 1) L' := by
      by_cases c : p.2 ∈ L.map (·.2)
      · rw [c1 c]; exact g.same hp c
      · exact g.more hp (c2 c)
    exact k b h' _ sb (Nat.le_add_right _ _) ⟨⟨L', es', ep', t', R2, g'⟩, fun p hp => keepT (hT p hp) fun o e => (sb.2 _ (Nat.ne_of_lt (old p hp))).trans e⟩
  · have nd : (L.map (·.2)).Nodup := R.nd
    have hn : H s.heap.objs.size = none := I.hok.fresh (Nat.le_refl _)
    exact ⟨.ref s.heap.objs.size, _, I.laid (o := sto X.w s.heap.objs.size (L.map fun p => V.ref p.1)) (t' := tk) kp (Nat.le_refl _) (sto_new (setT_data { s with heap := h', toks := tk } R) (vals_of_refs L)), rfl, q _ L hn nd (sub g) fun p hp => g.all p (by simpa using hp)⟩
end
end R
end
section
set_option Elab.async false
set_option linter.all false
set_option maxRecDepth 100000
/-! RS3: sorted(set), len(set). -/
namespace R
open PySem PySem.Spec PyProof.Rows L2
theorem each_perm {α β : Type} {R : α → β → Prop} {l l' : List α} (p : l'.Perm l) : ∀ {m : List β}, PySem.W.EachIs R l m → ∃ m', m'.Perm m ∧ PySem.W.EachIs R l' m' := by
  induction p with
  | nil => intro m h; exact ⟨m, .refl _, h⟩
  | cons x p ih =>
    intro m h
    cases h with
    | cons h1 h2 =>
      obtain ⟨m', q, e⟩ := ih h2
      exact ⟨_ :: m', q.cons _, .cons h1 e⟩
  | swap x y l =>
    intro m h
    cases h with
    | cons h1 h2 => cases h2 with
      | cons h3 h4 => exact ⟨_, .swap .., .cons h3 (.cons h1 h4)⟩
  | trans p1 p2 ih1 ih2 =>
    intro m h
    obtain ⟨m1, q1, e1⟩ := ih2 h
    obtain ⟨m2, q2, e2⟩ := ih1 e1
    exact ⟨m2, q2.trans q1, e2⟩
def rSortSet (S : St0) : List V → Hp → VK → Prop := fun xs H Q => ∃ a vs F μ ds ys, xs = [V.ref a] ∧ H a = some (sto S.w a vs) ∧ Same F H ∧ Reps S F μ ds vs ∧ (∀ ds', ds'.Perm ds → sortBy ds' ds' = some ys) ∧
  ∀ p vs', H p = none → Reps S F μ ys vs' → Q (.ref p) (upd H p (.lst vs'))
section
variable {S : St0} {X : Cx}
theorem bl_sortset (A : Agree S X) (hc : X.A.handled = none) (hu : X.A.units + 65 < cLine) : CallR X (.builtin "sorted") (rSortSet S) := by
  intro pins s σ H xs us Q I r h
  obtain ⟨a, vs, F, μ, ds, ys, rfl, ha, hF, hr, hs, q⟩ := h
  rw [Vals.ref1 r]
  obtain ⟨us, rv, o, es, ep, t, ho, hx, hd, hm, hb, hf, ris, hl⟩ := (I.hok a _ ha).1
  have hsz : es.size = us.length := by rw [← hm]; simp
  have zl := (sortBy_self (hs ds (.refl _))).2.1
  have el : us.length = ds.length := by rw [← rv.length, hr.length]
  refine call_function_entry_kw kind_sorted plain_sorted entry_sorted (args_sorted1 _) ?_
  unfold Builtin.«sorted»
  refine wpAny_bind (m := checkCount "sorted" 1 1 _) (wpAny_pure ?_)
  refine wpAny_bind (collect_set (A := X.A.in1) (w := X.w) (show X.A.in1.handled = none from hc) ⟨o, ho, hx.1, hd⟩ hf (by omega) ris (by rw [← A.w]; exact hl) fun s1 out k1 hz g1 o1 pm => ?_)
  rw [hm] at pm
  obtain ⟨ds', pd, e'⟩ := each_perm pm (isD_of hr rv)
  have I1 : Inv X pins σ H s1 := I.call' (ch := []) o1 (Un.kept k1) (I.hok.kept k1) (by rw [g1]; exact I.bare) (fun _ z => nomatch z)
  have ol : out.length ≤ sizeLine := by rw [pm.length_eq]; omega
  refine wpAny_bind (wpAny_newList ?_ ol)
  refine wpAny_bind (wpAny_holding (wpAny_call_entry_kw slot_list_sort ⟨_, Heap.get?_push_size _ rfl, rfl⟩ entry_list_sort ?_ (args_list_sort _)))
  refine wpAny_mono (sort_new A hu hF I1 e' (hs ds' pd) q _) (fun f s' y => ?_) fun _ _ e => e
  obtain ⟨rfl, q⟩ := y
  exact ⟨_, rfl, wpAny_pure ⟨_, rfl, q⟩⟩
end
end R
end
section
set_option Elab.async false
set_option linter.all false
set_option maxRecDepth 100000
/-! RC1: a def's promise in words of data; the readings of expressions; sorted by a key. -/
namespace R
open PySem PySem.Spec PyProof.Rows L2

/-- how an exception of the c-th class lies, with what it bears -/
def ExcR (S : St0) (F : Hp) (μ : List Addr) (p : List D) (dx : Option Addr) (H : Hp) : Prop :=
  match p with
  | [] => dx = none
  | [d] => ∃ a v, dx = some a ∧ H a = some (.xd [("path", v)]) ∧ Rep S F μ d v
  | _ => False
/-- what is wanted of a call's end -/
def PostF (S : St0) (H : Hp) (μ : List Addr) (G : Addr → Prop) (Q : VK) (E : XK) : M (Kd × D) → Prop
  | some (.ok (.val, d) w') => ∀ v H' μ', Ext H μ H' μ' → WRel S H' μ' w' G → Rep S (hide H' fun b => b ∈ μ' ∨ G b) μ' d v → Q v H'
  | some (.ok (.own, d) w') => ∀ a H' μ', Ext H μ H' μ' → H a = none → WRel S H' μ' w' (fun b => G b ∨ b = a) → Cont S (hide H' fun b => b ∈ μ' ∨ G b ∨ b = a) μ' H' a d → Q (.ref a) H'
  | some (.exc c p w') => ∀ dx H' μ', Ext H μ H' μ' → WRel S H' μ' w' G → ExcR S (hide H' fun b => b ∈ μ' ∨ G b) μ' p dx H' → E (S.exv c) dx H'
  | _ => False
/-- a def's promise: it hands back what g says -/
def spF (S : St0) (g : List D → Wd → M (Kd × D)) : Sp := fun vs H Q E => ∃ ds w μ G, WRel S H μ w G ∧ Reps S (hide H fun b => b ∈ μ ∨ G b) μ ds vs ∧ PostF S H μ G Q E (g ds w)

/-- a def of the text at its place, with its promise -/
structure FnT (P : Program) (w : World) (K : PySem.W.Frag) (mg : Str → Option Value) (base : Heap) (k : Nat) (S : St0) (x : Str) (g : List D → Wd → M (Kd × D)) : Prop where
  ex : ∃ (f : Addr) (fd : FuncData) (ps : List Str), FnOk P w K mg base (L2.CX P w) k f fd ps (spF S g) ∧ mg x = some (.ref f) ∧ PySem.W.keepIn K (.ref f) = true ∧ Binds K fd ps []

section
variable {S : St0} {X : Cx}
/-- the world that a key's call sees: nothing shared, all that may change kept from it -/
theorem wrel_nil {H : Hp} {G : Addr → Prop} (hg : ∀ b, G b → H b ≠ none) : WRel S H [] [] G :=
  ⟨rfl, List.nodup_nil, fun n a d h => by simp at h, fun a h => by simp at h, hg⟩
theorem sh_imm {F F' : Hp} {μ μ' : List Addr} (hF : ∀ b vs, Rd F b (.tup vs) → Rd F' b (.tup vs)) (hL : ∀ b vs, SqL S.K F b vs → SqL S.K F' b vs) : ∀ (n : Nat) (d : D) (v : V), sh n d = true → Rep S F μ d v → Rep S F' μ' d v := fun n => by
  have flat : ∀ (d : D) (v : V), sh 0 d = true → Rep S F μ d v → Rep S F' μ' d v := fun d v e h => by
    cases d <;> simp [sh] at e <;> simpa only [Rep] using h
  induction n with
  | zero => exact flat
  | succ n ih =>
    have all : ∀ (ds : List D) (vs : List V), ds.all (sh n) = true → Reps S F μ ds vs → Reps S F' μ' ds vs := by
      intro ds
      induction ds with
      | nil => intro vs _ h; rw [h.inv0]; exact Reps.nil
      | cons d ds ih2 =>
        intro vs e h
        obtain ⟨v, r, rfl, h1, h2⟩ := h.inv
        simp only [List.all_cons, Bool.and_eq_true] at e
        exact Reps.cons (ih d v e.1 h1) (ih2 r e.2 h2)
    intro d v e h
    cases d with
    | tup ds =>
      simp only [Rep] at h ⊢
      obtain ⟨a, vs, rfl, hs, hr⟩ := h
      refine ⟨a, vs, rfl, ?_, all ds vs (by simpa [sh] using e) hr⟩
      rcases hs with hs | hs
      · exact .inl (hF _ _ hs)
      · exact .inr hs
    | lst ds =>
      simp only [Rep] at h ⊢
      obtain ⟨a, vs, rfl, hs, hr⟩ := h
      exact ⟨a, vs, rfl, hL _ _ hs, all ds vs (by simpa [sh] using e) hr⟩
    | _ => exact flat _ v (by simpa [sh] using e) h
/-- one key: the call's end, with all that stood kept -/
theorem key_call (A : Agree S X) {k : Nat} {f : Addr} {fd : FuncData} {ps : List Str} {g : List D → Wd → M (Kd × D)} (Fn : FnOk X.prog X.w X.K X.mg X.base (L2.CX X.prog X.w) k f fd ps (spF S g)) (hb : Binds X.K fd ps []) (hr : Room k X.A.in1.in1) {H F : Hp} {μ : List Addr} {pins : List (Addr × Obj)} {σ : L2.St} {s : Shared} (I : Inv X pins σ H s) {B : Addr → Prop}
    (hB : ∀ b, B b → H b ≠ none) (hF : F = hide H B) {d kd : D} {x : V} {u : Value} (hd : sh 8 d = true) (hx : Rep S F μ d x) (rx : RelV x u) (he : g [d] [] = some (.ok (.val, kd) [])) {E : Value → Shared → Prop} {Q : Value → Shared → Prop}
    (q : ∀ y v s' H', Same H H' → Un (frs X.stack) [] H H' s.heap s'.heap → Inv X pins σ H' s' → RelV y v → Rep S (hide H' B) [] kd y → s'.os = s.os → Q v s') : wpAny (model X.prog X.w) X.A.in1.in1 (call (.ref f) [u]) Q E s := by
  subst hF
  have wr : WRel S H [] [] B := wrel_nil hB
  have hx' : Rep S (hide H fun b => b ∈ ([] : List Addr) ∨ B b) [] d x := by
    have e : (hide H fun b => b ∈ ([] : List Addr) ∨ B b) = hide H B := by
      congr 1
      funext b
      simp
    rw [e]
    exact sh_imm (fun _ _ h => h) (fun _ _ h => h) 8 d x hd hx
  have hsp : spF S g [x] H (fun y H' => Same H H' ∧ Rep S (hide H' B) [] kd y) (fun _ _ _ => False) := by
    refine ⟨[d], [], [], B, wr, Reps.cons hx' Reps.nil, ?_⟩
    rw [he]
    intro v H' μ' ext wr' rp
    have hμ : μ' = [] := List.eq_nil_of_length_eq_zero (by rw [← wr'.len]; rfl)
    subst hμ
    refine ⟨fun b o e => ext.keep b o e (by simp), ?_⟩
    have e : (hide H' fun b => b ∈ ([] : List Addr) ∨ B b) = hide H' B := by
      congr 1
      funext b
      simp
    rw [e] at rp
    exact rp
  have hl := Fn.len _ _ _ _ hsp
  refine wpAny_call (codeAny_mono (Fn.run X.A.in1.in1 X.stack s H ⟨[u], []⟩ [u] [x] _ _ hr I.env0.in1.in1 (by
    have := hb s [u] I.kIn (by simpa using hl)
    simpa using this) (.cons rx .nil) hsp) fun r s' hq => ?_)
  cases r with
  | error e =>
    obtain ⟨_, _, _, _, _, _, _, _, _, _, _, _, z⟩ := hq
    exact z.elim
  | ok fl =>
    cases fl with
    | ret v =>
      obtain ⟨y, H', os, bare, un, hok, ry, sm, rp⟩ := hq
      obtain ⟨hh, gg, dd, tt, oo⟩ := s'
      obtain rfl : oo = s.os := os
      exact q y v _ H' sm un (I.call (h' := hh) (g' := gg) (d' := dd) (t' := tt) (ch := []) un hok bare (fun b z => absurd z (by simp))) ry rp rfl
    | next => exact False.elim hq
    | brk => exact False.elim hq
    | cont => exact False.elim hq
end
end R
end
section
set_option Elab.async false
set_option linter.all false
set_option maxRecDepth 100000
/-! RC2: readings of expressions by the evaluator. -/
namespace R
open PySem PySem.Spec PyProof.Rows L2

/-- the hidden ones, and a new one -/
def gk (G : Addr → Prop) (k : Kd) (v : V) : Addr → Prop := fun b => G b ∨ (k = Kd.own ∧ v = V.ref b)
/-- the value v is d, of the kind k -/
def VR (S : St0) (σ : L2.St) (H : Hp) (env : En) (w : Wd) (μ : List Addr) (G : Addr → Prop) : Kd → D → V → Prop
  | .val, d, v => Rep S (hide H (BB μ G env σ)) μ d v
  | .own, d, v => ∃ a, v = .ref a ∧ G a ∧ ¬ ownAt env σ a ∧ Cont S (hide H (BB μ G env σ)) μ H a d
  | .slot i, d, v => ∃ a : Addr, v = .ref a ∧ env[i]? = some (Sl.own d) ∧ σ[i]? = some (some (V.ref a))
  | .cel, d, v => ∃ (a : Addr) (n : Nat), v = .ref a ∧ μ[n]? = some a ∧ w[n]? = some d
/-- what is wanted of an expression's end -/
def PostE (S : St0) (W : WX) (σ : L2.St) (H : Hp) (env : En) (μ : List Addr) (G : Addr → Prop) (Q : VK) : M (Kd × D) → Prop
  | some (.ok r w') => ∀ v H' μ', Ext H μ H' μ' → Rel S σ H' env w' μ' (gk G r.1 v) → VR S σ H' env w' μ' (gk G r.1 v) r.1 r.2 v → (∀ a, r.1 = Kd.own → v = V.ref a → H a = none) → Q v H'
  | some (.exc c p w') => ∀ dx H' μ', Ext H μ H' μ' → Rel S σ H' env w' μ' G → ExcR S (hide H' (BB μ' G env σ)) μ' p dx H' → W (S.exv c) dx σ H'
  | none => False
def tE (S : St0) (W : WX) (T : Tab) (c : CE) : TE := fun σ H Q => ∃ env w μ G, Rel S σ H env w μ G ∧ PostE S W σ H env μ G Q (evE T c env w)
/-- an argument: what it is behind the whole list -/
def VL (S : St0) (σ : L2.St) (H : Hp) (env : En) (μ : List Addr) (G : Addr → Prop) : Kd × D → V → Prop
  | (.slot i, d), v => ∃ a : Addr, v = .ref a ∧ env[i]? = some (Sl.own d) ∧ σ[i]? = some (some (V.ref a))
  | (.cel, _), _ => False
  | (_, d), v => Rep S (hide H (BB μ G env σ)) μ d v
def VLs (S : St0) (σ : L2.St) (H : Hp) (env : En) (μ : List Addr) (G : Addr → Prop) : List (Kd × D) → List V → Prop := Paired (VL S σ H env μ G)
def PostL (S : St0) (W : WX) (σ : L2.St) (H : Hp) (env : En) (μ : List Addr) (G : Addr → Prop) (Q : List V → Hp → Prop) : M (List (Kd × D)) → Prop
  | some (.ok r w') => ∀ vs H' μ', Ext H μ H' μ' → Rel S σ H' env w' μ' G → VLs S σ H' env μ' G r vs → Q vs H'
  | some (.exc c p w') => ∀ dx H' μ', Ext H μ H' μ' → Rel S σ H' env w' μ' G → ExcR S (hide H' (BB μ' G env σ)) μ' p dx H' → W (S.exv c) dx σ H'
  | none => False
def tL (S : St0) (W : WX) (T : Tab) (c : CE) : TA := fun σ H Q => ∃ env w μ G, Rel S σ H env w μ G ∧ PostL S W σ H env μ G Q (evL T c env w)

section
variable {S : St0} {W : WX} {T : Tab} {σ : L2.St} {H H' H1 : Hp} {env : En} {w w' w1 : Wd} {μ μ' μ1 : List Addr} {G G' G1 : Addr → Prop} {Q Q' : VK}
theorem gk_le {k : Kd} {v : V} : ∀ b, G b → gk G k v b := fun _ h => .inl h
theorem gk_mono {k : Kd} {v : V} (h : ∀ b, G b → G1 b) : ∀ b, gk G k v b → gk G1 k v b := fun b => Or.imp_left (h b)
theorem gk_not {k : Kd} {v : V} (hk : k ≠ Kd.own) : ∀ b, gk G k v b → G b := fun b h => h.elim id fun z => absurd z.1 hk
/-- behind a run that changed cells only, and laid what is hidden from now on -/
theorem Rel.frozenG (r : Rel S σ H env w μ G) (e : Ext H μ H' μ') (hn : ∀ b, G' b → G b ∨ H b = none) : Same (hide H (BB μ G env σ)) (hide H' (BB μ' G' env σ)) :=
  hide_mono (fun b o h nb => e.keep b o h fun z => nb (.inl z)) fun b o h nb z => by
    rcases z with z | z | z
    · exact e.mem h (fun y => nb (.inl y)) z
    · rcases hn b z with y | y
      · exact nb (.inr (.inl y))
      · rw [y] at h; cases h
    · exact nb (.inr (.inr z))
theorem Rel.extG (r : Rel S σ H env w μ G) (e : Ext H μ H' μ') (x : WRel S H' μ' w' (GO G' env σ)) (hn : ∀ b, G' b → G b ∨ H b = none) : Rel S σ H' env w' μ' G' := by
  have fz := r.frozenG e hn
  refine ⟨x, r.len, fun i d h => ?_, fun i d h => ?_, r.uniq⟩
  · obtain ⟨v, h1, h2⟩ := r.val i d h
    exact ⟨v, h1, Rep.mono fz e.pre _ _ h2⟩
  · obtain ⟨a, h1, h2, h3⟩ := r.own i d h
    refine ⟨a, h1, fun z => ?_, h3.mono fz e.pre fun o q => e.keep a o q (r.own_nc ⟨i, d, h, h1⟩)⟩
    rcases hn a z with y | y
    · exact h2 y
    · exact absurd y h3.some
theorem Rel.nd (r : Rel S σ H env w μ G) {b : Addr} (h : BB μ G env σ b) : H b ≠ none := by
  rcases h with h | h
  · exact r.wr.cellD b h
  · exact r.wr.gd b h
/-- new objects only, some of them hidden -/
theorem WRel.growG {B B' : Addr → Prop} (h : WRel S H μ w B) (s : Same H H') (hn : ∀ b, B' b → B b ∨ (H b = none ∧ H' b ≠ none)) : WRel S H' μ w B' :=
  ⟨h.len, h.nd, fun n a d h1 h2 => (h.cont n a d h1 h2).mono (hide_mono (fun b o e _ => s b o e) fun b o q nb z => z.elim (fun y => nb (.inl y)) fun y => (hn b y).elim (fun x => nb (.inr x)) fun x => by rw [x.1] at q; cases q) (Pre.refl _) fun o e => s a o e,
    fun a ha z => (hn a z).elim (h.dis a ha) fun x => h.cellD a ha x.1, fun b z q => (hn b z).elim (fun x => h.gd b x (by
      cases y : H b with
      | none => rfl
      | some o => rw [s b o y] at q; cases q)) fun x => x.2 q⟩
theorem Rel.growG (r : Rel S σ H env w μ G) (s : Same H H') (hn : ∀ b, G' b → G b ∨ (H b = none ∧ H' b ≠ none)) : Rel S σ H' env w μ G' :=
  r.extG (r.ext0 s) (r.wr.growG s fun b z => z.elim (fun y => (hn b y).imp_left .inl) fun y => .inl (.inr y)) fun b z => (hn b z).imp_right fun y => y.1

/-! ### a value stays -/
theorem VR.mono {k : Kd} {d : D} {v : V} (hk : k ≠ .cel) (r : Rel S σ H env w μ G) (e : Ext H μ H' μ') (hg : ∀ b, G b → G' b) (hn : ∀ b, G' b → G b ∨ H b = none) (h : VR S σ H env w μ G k d v) : VR S σ H' env w' μ' G' k d v := by
  have fz := r.frozenG e hn
  cases k with
  | val => exact Rep.mono fz e.pre _ _ h
  | own =>
    obtain ⟨a, h1, h2, h3, h4⟩ := h
    exact ⟨a, h1, hg a h2, h3, h4.mono fz e.pre fun o q => e.keep a o q fun z => r.wr.dis a z (.inl h2)⟩
  | slot i => exact h
  | cel => exact absurd rfl hk
/-- less is hidden -/
theorem VR.less {k : Kd} {d : D} {v : V} (g : ∀ b, G b → G' b) (ho : ∀ a, k = Kd.own → v = V.ref a → G a) (h : VR S σ H env w μ G' k d v) : VR S σ H env w μ G k d v := by
  have fz : Same (hide H (BB μ G' env σ)) (hide H (BB μ G env σ)) := hide_mono (fun _ _ e _ => e) fun b o _ nb z => nb (z.imp_right fun q => q.imp_left (g b))
  cases k with
  | val => exact Rep.mono fz (Pre.refl _) _ _ h
  | own =>
    obtain ⟨a, h1, h2, h3, h4⟩ := h
    exact ⟨a, h1, ho a rfl h1, h3, h4.mono fz (Pre.refl _) fun o q => q⟩
  | slot i => exact h
  | cel => exact h
theorem VR.sv {k : Kd} {d : D} {v : V} (r : Rel S σ H env w μ G) (h : VR S σ H env w μ G k d v) : Sv S (hide H (BB μ G env σ)) H μ d v := by
  cases k with
  | val => exact Rep.sv (hide_same _ _) h
  | own =>
    obtain ⟨a, rfl, _, _, h4⟩ := h
    exact h4.sv
  | slot i =>
    obtain ⟨a, rfl, h1, h2⟩ := h
    obtain ⟨a', h3, _, h4⟩ := r.own i d h1
    rw [h2] at h3; cases h3
    exact h4.sv
  | cel =>
    obtain ⟨a, n, rfl, h1, h2⟩ := h
    exact (r.wr.cont n a d h1 h2).sv
/-- a new list told as what nothing will change -/
theorem VR.keep {k : Kd} {d e : D} {v : V} (h : VR S σ H env w μ (gk G k v) k d v) (hG : ∀ a, k = Kd.own → v = V.ref a → ¬ G a) (r : Rel S σ H env w μ (gk G k v)) (hk : keepOk (k, d) = some e) : e = d ∧ Rep S (hide H (BB μ G env σ)) μ d v := by
  have fz : Same (hide H (BB μ (gk G k v) env σ)) (hide H (BB μ G env σ)) := hide_mono (fun _ _ e _ => e) fun b o _ nb z => nb (z.imp_right fun q => q.imp_left (gk_le b))
  cases k with
  | val => exact ⟨(Option.some.inj hk).symm, Rep.mono fz (Pre.refl _) _ _ h⟩
  | own =>
    obtain ⟨a, h1, h2, h3, h4⟩ := h
    refine ⟨(Option.some.inj hk).symm, ?_⟩
    rw [h1]
    refine (h4.mono fz (Pre.refl _) fun o q => q).rep fun o q => hide_of q fun z => ?_
    rcases z with z | z | z
    · exact r.wr.dis a z (.inl h2)
    · exact hG a rfl h1 z
    · exact h3 z
  | slot i => cases hk
  | cel => cases hk
theorem VL.mono {x : Kd × D} {v : V} (r : Rel S σ H env w μ G) (e : Ext H μ H' μ') (h : VL S σ H env μ G x v) : VL S σ H' env μ' G x v := by
  have fz := r.frozen e
  obtain ⟨k, d⟩ := x
  cases k with
  | val => exact Rep.mono fz e.pre _ _ h
  | own => exact Rep.mono fz e.pre _ _ h
  | slot i => exact h
  | cel => exact h

/-! ### ends -/
theorem PostE.imp {x : M (Kd × D)} (h : PostE S W σ H env μ G Q x) (q : ∀ v H, Q v H → Q' v H) : PostE S W σ H env μ G Q' x := by
  cases x with
  | none => exact h
  | some x => cases x with
    | exc c p w' => exact h
    | ok a w' => exact fun v H' μ' e r vr fr => q _ _ (h v H' μ' e r vr fr)
/-- told from a later state -/
theorem PostE.back {x : M (Kd × D)} (r : Rel S σ H env w μ G) (e : Ext H μ H1 μ1) (g : ∀ b, G b → G1 b) (h : PostE S W σ H env μ G Q x) : PostE S W σ H1 env μ1 G1 Q x := by
  cases x with
  | none => exact h
  | some x => cases x with
    | exc c p w' =>
      intro dx H' μ' e' r' x'
      have fz : Same (hide H' (BB μ' G1 env σ)) (hide H' (BB μ' G env σ)) := hide_mono (fun _ _ e _ => e) fun b o _ nb z => nb (z.imp_right fun q => q.imp_left (g b))
      refine h dx H' μ' (e.trans e') (r'.mono g) ?_
      revert x'
      unfold ExcR
      split
      · exact id
      · rintro ⟨a, v, h1, h2, h3⟩
        exact ⟨a, v, h1, h2, Rep.mono fz (Pre.refl _) _ _ h3⟩
      · exact id
    | ok a w' =>
      intro v H' μ' e' r' vr fr
      exact h v H' μ' (e.trans e') (r'.mono (gk_mono g)) (vr.less (gk_mono g) fun a h1 h2 => .inr ⟨h1, h2⟩) fun a h1 h2 => e.dom (fr a h1 h2)
/-- one part after another -/
theorem PostE.bnd {x : M (Kd × D)} {f : Kd × D → Wd → M (Kd × D)} (h : PostE S W σ H env μ G Q (bnd x f)) (r : Rel S σ H env w μ G)
    (k : ∀ a w1 v H1 μ1, Ext H μ H1 μ1 → Rel S σ H1 env w1 μ1 (gk G a.1 v) → VR S σ H1 env w1 μ1 (gk G a.1 v) a.1 a.2 v → (∀ b, a.1 = Kd.own → v = V.ref b → H b = none) → PostE S W σ H1 env μ1 (gk G a.1 v) Q (f a w1) → Q' v H1) : PostE S W σ H env μ G Q' x := by
  cases x with
  | none => exact h
  | some x => cases x with
    | exc c p w' => exact h
    | ok a w' => exact fun v H' μ' e r' vr fr => k a w' v H' μ' e r' vr fr (PostE.back r e gk_le h)
theorem PostE.bnd1 {x : M (Kd × D)} {f : Kd × D → Wd → M (Kd × D)} (h : PostE S W σ H env μ G Q (bnd1 x f)) (r : Rel S σ H env w μ G)
    (k : ∀ a w1 v H1 μ1, a.1 ≠ Kd.cel → Ext H μ H1 μ1 → Rel S σ H1 env w1 μ1 (gk G a.1 v) → VR S σ H1 env w1 μ1 (gk G a.1 v) a.1 a.2 v → (∀ b, a.1 = Kd.own → v = V.ref b → H b = none) → PostE S W σ H1 env μ1 (gk G a.1 v) Q (f a w1) → Q' v H1) : PostE S W σ H env μ G Q' x :=
  PostE.bnd h r fun a w1 v H1 μ1 e r1 vr fr p => by
    obtain ⟨kd, d⟩ := a
    cases kd with
    | cel => exact False.elim p
    | _ => exact k _ w1 v H1 μ1 (by simp) e r1 vr fr p
/-- an operation's end -/
theorem PostE.opv {k : Kd × D} {v : V} (h : PostE S W σ H env μ G Q (ret k w)) (r : Rel S σ H env w μ G) (s : Same H H') (o : OV S (hide H (BB μ G env σ)) H H' μ k v) : Q v H' := by
  obtain ⟨kd, d⟩ := k
  cases kd with
  | val =>
    refine h v H' μ (r.ext0 s) (r.growG s fun b z => .inl (gk_not (by simp) b z)) ?_ fun a z => by cases z
    refine Rep.mono (fun b u q => ?_) (Pre.refl _) _ _ o
    unfold grow at q
    cases y : H b with
    | none =>
      rw [y] at q
      exact hide_of q fun z => r.nd (z.imp_right fun t => t.imp_left (gk_not (by simp) b)) y
    | some u' =>
      rw [y] at q
      obtain ⟨q1, q2⟩ := of_hide q
      exact hide_of (s b u q1) fun z => q2 (z.imp_right fun t => t.imp_left (gk_not (by simp) b))
  | own =>
    obtain ⟨a, rfl, hn, hc⟩ := o
    have nw : ∀ b, gk G Kd.own (V.ref a) b → G b ∨ (H b = none ∧ H' b ≠ none) := fun b z => z.imp_right fun y => by
      have e : a = b := by injection y.2
      subst e
      exact ⟨hn, hc.some⟩
    refine h _ H' μ (r.ext0 s) (r.growG s nw) ⟨a, rfl, .inr ⟨rfl, rfl⟩, fun z => r.ownD z hn, ?_⟩ fun b _ z => by
      have e : a = b := by injection z
      exact e ▸ hn
    refine hc.mono (fun b u q => ?_) (Pre.refl _) fun _ q => q
    obtain ⟨q1, q2⟩ := of_hide q
    have nb : ¬ gk G Kd.own (V.ref a) b ∨ G b := by
      by_cases g : G b
      · exact .inr g
      · exact .inl fun z => z.elim g fun y => q2 (by injection y.2 with e; exact e.symm)
    unfold grow at q1
    cases y : H b with
    | none =>
      rw [y] at q1
      exact hide_of q1 fun z => by
        rcases z with z | z | z
        · exact r.nd (.inl z) y
        · exact nb.elim (fun t => t z) fun t => r.nd (.inr (.inl t)) y
        · exact r.nd (.inr (.inr z)) y
    | some u' =>
      rw [y] at q1
      obtain ⟨q3, q4⟩ := of_hide q1
      exact hide_of (s b u q3) fun z => by
        rcases z with z | z | z
        · exact q4 (.inl z)
        · exact nb.elim (fun t => t z) fun t => q4 (.inr (.inl t))
        · exact q4 (.inr (.inr z))
  | slot i => exact False.elim o
  | cel => exact False.elim o
/-- .. a plain value, the heap as it was -/
theorem PostE.same {d : D} {v : V} (h : PostE S W σ H env μ G Q (ret (.val, d) w)) (r : Rel S σ H env w μ G) (o : Rep S (hide H (BB μ G env σ)) μ d v) : Q v H :=
  h.opv r (fun _ _ e => e) (OV.old (hide_same _ _) o)
end
end R
end
section
set_option Elab.async false
set_option linter.all false
set_option maxRecDepth 100000
/-! RC3: the readings, construct by construct. -/
namespace R
open PySem PySem.Spec PyProof.Rows L2
section
variable {S : St0} {W : WX} {T : Tab} {σ : L2.St} {H H' H1 : Hp} {env : En} {w w' w1 : Wd} {μ μ' μ1 : List Addr} {G G' G1 : Addr → Prop} {Q Q' : VK} {a b c : CE}
theorem gk_new {k : Kd} {v : V} (f : ∀ b, k = Kd.own → v = V.ref b → H b = none) : ∀ b, gk G k v b → G b ∨ H b = none := fun b z => z.imp_right fun y => f b y.1 y.2
theorem tE.imp (h : tE S W T c σ H Q) (q : ∀ v H, Q v H → Q' v H) : tE S W T c σ H Q' := by
  obtain ⟨env, w, μ, G, r, p⟩ := h
  exact ⟨env, w, μ, G, r, p.imp q⟩
/-- two operands -/
theorem t_two {f : D → D → Option (Kd × D)} (r : Rel S σ H env w μ G) (h : PostE S W σ H env μ G Q (bnd1 (evE T a env w) fun x w1 => bnd (evE T b env w1) fun y w2 => lift (f x.2 y.2) w2)) :
    tOp (r2 S f) (tE S W T a) (tE S W T b) σ H Q := by
  refine ⟨env, w, μ, G, r, h.bnd1 r fun x w1 v H1 μ1 hk e1 r1 v1 f1 p1 => ⟨env, w1, μ1, _, r1, p1.bnd r1 fun y w2 u H2 μ2 e2 r2 v2 f2 p2 => ?_⟩⟩
  have v1' := v1.mono (w' := w2) hk r1 e2 gk_le (gk_new f2)
  cases hf : f x.2 y.2 with
  | none => rw [hf] at p2; exact False.elim p2
  | some k =>
    rw [hf] at p2
    exact ⟨_, μ2, x.2, y.2, k, hide_same _ _, v1'.sv r2, v2.sv r2, hf, fun v H' s o => PostE.opv p2 r2 s o⟩
theorem r2_b {f : D → D → Option Bool} {x y : V} (h : r2 S (fun x y => (f x y).map fun b => (Kd.val, D.bl b)) x y H Q) : r2b S f x y H Q := by
  obtain ⟨F, μ, dx, dy, k, h1, h2, h3, h4, h5⟩ := h
  dsimp only at h4
  cases hf : f dx dy with
  | none => rw [hf] at h4; cases h4
  | some b =>
    rw [hf] at h4
    cases h4
    exact ⟨F, μ, dx, dy, b, h1, h2, h3, hf, h5 _ _ (fun _ _ e => e) OV.bl⟩
theorem r2_v {f : D → D → Option D} {x y : V} (h : r2 S (fun x y => (f x y).map fun d => (Kd.val, d)) x y H Q) : r2v S f x y H Q := by
  obtain ⟨F, μ, dx, dy, k, h1, h2, h3, h4, h5⟩ := h
  dsimp only at h4
  cases hf : f dx dy with
  | none => rw [hf] at h4; cases h4
  | some d =>
    rw [hf] at h4
    cases h4
    exact ⟨F, μ, dx, dy, d, h1, h2, h3, hf, fun v o => h5 v _ (fun _ _ e => e) (OV.old h1 o)⟩
theorem t_bin {o : BOp} (h : tE S W T (.bin o a b) σ H Q) : tOp (r2 S (binD o)) (tE S W T a) (tE S W T b) σ H Q := by
  obtain ⟨env, w, μ, G, r, p⟩ := h
  rw [evE] at p
  exact t_two r p
theorem t_cmp {o : COp} (h : tE S W T (.cmp o a b) σ H Q) : tOp (r2b S (cmpD o)) (tE S W T a) (tE S W T b) σ H Q := by
  obtain ⟨env, w, μ, G, r, p⟩ := h
  rw [evE] at p
  exact tE.imp (t_two (f := fun x y => (cmpD o x y).map fun b => (Kd.val, D.bl b)) r p) fun v H1 z => tE.imp z fun u H2 z => r2_b z
theorem t_idx (h : tE S W T (.idx a b) σ H Q) : tOp (r2v S idxD) (tE S W T a) (tE S W T b) σ H Q := by
  obtain ⟨env, w, μ, G, r, p⟩ := h
  rw [evE] at p
  exact tE.imp (t_two (f := fun x y => (idxD x y).map fun d => (Kd.val, d)) r p) fun v H1 z => tE.imp z fun u H2 z => r2_v z
theorem t_mth {m : Mt} (h : tE S W T (.mth m a b) σ H Q) : tE S W T a σ H fun x H1 => (∃ p vs, x = .ref p ∧ SqL S.K H1 p vs) ∧ tE S W T b σ H1 fun y H2 => r2m S (mthD m) x [y] H2 Q := by
  obtain ⟨env, w, μ, G, r, p⟩ := h
  rw [evE] at p
  refine ⟨env, w, μ, G, r, p.bnd1 r fun x w1 v H1 μ1 hk e1 r1 v1 f1 p1 => ?_⟩
  obtain ⟨k, d⟩ := x
  cases d with
  | lst ds =>
    obtain ⟨q, vs, rfl, q1, q2⟩ := v1.sv r1
    refine ⟨⟨q, vs, rfl, q1⟩, env, w1, μ1, _, r1, PostE.bnd (f := fun y w2 => lift ((mthD m (.lst ds) y.2).map fun d => (Kd.val, d)) w2) p1 r1 fun y w2 u H2 μ2 e2 r2 v2 f2 p2 => ?_⟩
    have v1' := v1.mono (w' := w2) hk r1 e2 gk_le (gk_new f2)
    cases hf : mthD m (.lst ds) y.2 with
    | none => rw [hf] at p2; exact False.elim p2
    | some k =>
      rw [hf] at p2
      exact ⟨_, μ2, .lst ds, u, y.2, k, rfl, hide_same _ _, v1'.sv r2, v2.sv r2, hf, fun v o => PostE.same p2 r2 o⟩
  | _ => exact False.elim p1
/-- one operand -/
theorem t_one {f : D → Option (Kd × D)} (r : Rel S σ H env w μ G) (h : PostE S W σ H env μ G Q (bnd (evE T a env w) fun x w1 => lift (f x.2) w1)) :
    tE S W T a σ H fun x H1 => r1 S f [x] H1 Q := by
  refine ⟨env, w, μ, G, r, h.bnd r fun x w1 v H1 μ1 e1 r1 v1 f1 p1 => ?_⟩
  cases hf : f x.2 with
  | none => rw [hf] at p1; exact False.elim p1
  | some k =>
    rw [hf] at p1
    exact ⟨_, μ1, x.2, v, k, rfl, hide_same _ _, v1.sv r1, hf, fun v H' s o => PostE.opv p1 r1 s o⟩
theorem t_blt {o : Blt} (h : tE S W T (.blt o a) σ H Q) : tE S W T a σ H fun x H1 => r1 S (bltD o) [x] H1 Q := by
  obtain ⟨env, w, μ, G, r, p⟩ := h
  rw [evE] at p
  exact t_one r p
theorem t_slc {lo hi : Option Int} (h : tE S W T (.slc a lo hi) σ H Q) : tE S W T a σ H fun x H1 => rSl S x lo hi H1 Q := by
  obtain ⟨env, w, μ, G, r, p⟩ := h
  rw [evE] at p
  refine tE.imp (t_one (f := fun x => slcD x lo hi) r p) fun v H1 z => ?_
  obtain ⟨F, μ, d, x, k, h0, h1, h2, h3, h4⟩ := z
  cases h0
  exact ⟨F, μ, d, k, h1, h2, h3, h4⟩

/-! ### names, constants -/
theorem t_var {i : Nat} (h : tE S W T (.var i) σ H Q) : tVar i σ H Q := by
  obtain ⟨env, w, μ, G, r, p⟩ := h
  rw [evE] at p
  split at p
  · rename_i d hd
    obtain ⟨v, h1, h2⟩ := r.val i d hd
    exact ⟨v, h1, PostE.same p r h2⟩
  · rename_i d hd
    obtain ⟨a, h1, h2, h3⟩ := r.own i d hd
    refine ⟨_, h1, p _ H μ (r.ext0 fun _ _ e => e) (r.growG (fun _ _ e => e) fun b z => .inl (gk_not (by simp) b z)) ⟨a, rfl, hd, h1⟩ fun a z => by cases z⟩
  · exact False.elim p
theorem t_const {d : D} {v : V} (r : Rel S σ H env w μ G) (h : PostE S W σ H env μ G Q (ret (.val, d) w)) (o : ∀ F μ, Rep S F μ d v) : Q v H := h.same r (o _ _)
theorem t_int {i : Int} (h : tE S W T (.int i) σ H Q) : Q (.int i) H := by
  obtain ⟨env, w, μ, G, r, p⟩ := h
  rw [evE] at p
  exact t_const r p fun _ _ => by simp only [Rep]
theorem t_str {i : Str} (h : tE S W T (.str i) σ H Q) : Q (.str i) H := by
  obtain ⟨env, w, μ, G, r, p⟩ := h
  rw [evE] at p
  exact t_const r p fun _ _ => by simp only [Rep]
theorem t_bl {i : Bool} (h : tE S W T (.bl i) σ H Q) : Q (.bl i) H := by
  obtain ⟨env, w, μ, G, r, p⟩ := h
  rw [evE] at p
  exact t_const r p fun _ _ => by simp only [Rep]
theorem t_non (h : tE S W T .non σ H Q) : Q .non H := by
  obtain ⟨env, w, μ, G, r, p⟩ := h
  rw [evE] at p
  exact t_const r p fun _ _ => by simp only [Rep]
theorem t_fn {f : Nat} (h : tE S W T (.fn f) σ H Q) : Q (S.fnv f) H := by
  obtain ⟨env, w, μ, G, r, p⟩ := h
  rw [evE] at p
  exact t_const r p fun _ _ => by simp only [Rep]
theorem t_gl {g : Nat} {d : D} {v : V} (e : T.gv g = some d) (o : ∀ F μ, Rep S F μ d v) (h : tE S W T (.gl g) σ H Q) : Q v H := by
  obtain ⟨env, w, μ, G, r, p⟩ := h
  rw [evE, e] at p
  exact t_const r p o

/-! ### truth -/
theorem VR.blD {k : Kd} {b : Bool} {v : V} (r : Rel S σ H env w μ G) (h : VR S σ H env w μ G k (.bl b) v) : v = .bl b := by
  have := h.sv r
  simpa only [Sv, Rep] using this
theorem VR.intD {k : Kd} {b : Int} {v : V} (r : Rel S σ H env w μ G) (h : VR S σ H env w μ G k (.int b) v) : v = .int b := by
  have := h.sv r
  simpa only [Sv, Rep] using this
def tT (S : St0) (W : WX) (T : Tab) (c : CE) : TT := tB (tE S W T c)
theorem t_and (h : tE S W T (.and a b) σ H Q) : tAndV (tE S W T a) (tE S W T b) σ H Q := by
  obtain ⟨env, w, μ, G, r, p⟩ := h
  rw [evE] at p
  refine ⟨env, w, μ, G, r, p.bnd r fun x w1 v H1 μ1 e1 r1 v1 f1 p1 => ?_⟩
  obtain ⟨k, d⟩ := x
  cases d with
  | bl x =>
    cases x with
    | true => exact ⟨true, v1.blD r1, by simpa using ⟨env, w1, μ1, _, r1, p1⟩⟩
    | false => exact ⟨false, v1.blD r1, by simpa using t_const r1 p1 fun _ _ => by simp only [Rep]⟩
  | _ => exact False.elim p1
theorem t_or (h : tE S W T (.or a b) σ H Q) : tOrV (tE S W T a) (tE S W T b) σ H Q := by
  obtain ⟨env, w, μ, G, r, p⟩ := h
  rw [evE] at p
  refine ⟨env, w, μ, G, r, p.bnd r fun x w1 v H1 μ1 e1 r1 v1 f1 p1 => ?_⟩
  obtain ⟨k, d⟩ := x
  cases d with
  | bl x =>
    cases x with
    | true => exact ⟨true, v1.blD r1, by simpa using t_const r1 p1 fun _ _ => by simp only [Rep]⟩
    | false => exact ⟨false, v1.blD r1, by simpa using ⟨env, w1, μ1, _, r1, p1⟩⟩
  | _ => exact False.elim p1
theorem t_not (h : tE S W T (.not a) σ H Q) : tNotV (tE S W T a) σ H Q := by
  obtain ⟨env, w, μ, G, r, p⟩ := h
  rw [evE] at p
  refine ⟨env, w, μ, G, r, p.bnd r fun x w1 v H1 μ1 e1 r1 v1 f1 p1 => ?_⟩
  obtain ⟨k, d⟩ := x
  cases d with
  | bl x => exact ⟨x, v1.blD r1, t_const r1 p1 fun _ _ => by simp only [Rep]⟩
  | _ => exact False.elim p1
theorem t_neg (h : tE S W T (.neg a) σ H Q) : tUn (rU fun i => .int (-i)) (tE S W T a) σ H Q := by
  obtain ⟨env, w, μ, G, r, p⟩ := h
  rw [evE] at p
  refine ⟨env, w, μ, G, r, p.bnd r fun x w1 v H1 μ1 e1 r1 v1 f1 p1 => ?_⟩
  obtain ⟨k, d⟩ := x
  cases d with
  | int x => exact ⟨x, v1.intD r1, t_const r1 p1 fun _ _ => by simp only [Rep]⟩
  | _ => exact False.elim p1
theorem t_ite (h : tE S W T (.ite c a b) σ H Q) : tIf (tT S W T c) (tE S W T a) (tE S W T b) σ H Q := by
  obtain ⟨env, w, μ, G, r, p⟩ := h
  rw [evE] at p
  refine ⟨env, w, μ, G, r, p.bnd r fun x w1 v H1 μ1 e1 r1 v1 f1 p1 => ?_⟩
  obtain ⟨k, d⟩ := x
  cases d with
  | bl x =>
    cases x with
    | true => exact ⟨true, v1.blD r1, by simpa using ⟨env, w1, μ1, _, r1, p1⟩⟩
    | false => exact ⟨false, v1.blD r1, by simpa using ⟨env, w1, μ1, _, r1, p1⟩⟩
  | _ => exact False.elim p1
theorem tt_and {Q : Bool → Hp → Prop} (h : tT S W T (.and a b) σ H Q) : tAnd (tT S W T a) (tT S W T b) σ H Q := by
  refine tE.imp (t_and h) fun x H1 ⟨c, e, z⟩ => ⟨c, e, ?_⟩
  cases c with
  | true =>
    rw [if_pos rfl] at z ⊢
    exact z
  | false =>
    obtain ⟨c, e, q⟩ := (by simpa using z : ∃ c, V.bl false = V.bl c ∧ Q c H1)
    cases e
    simpa using q
theorem tt_or {Q : Bool → Hp → Prop} (h : tT S W T (.or a b) σ H Q) : tOr (tT S W T a) (tT S W T b) σ H Q := by
  refine tE.imp (t_or h) fun x H1 ⟨c, e, z⟩ => ⟨c, e, ?_⟩
  cases c with
  | false =>
    rw [if_neg Bool.false_ne_true] at z ⊢
    exact z
  | true =>
    obtain ⟨c, e, q⟩ := (by simpa using z : ∃ c, V.bl true = V.bl c ∧ Q c H1)
    cases e
    simpa using q
theorem tt_not {Q : Bool → Hp → Prop} (h : tT S W T (.not a) σ H Q) : tNot (tT S W T a) σ H Q := by
  refine tE.imp (t_not h) fun x H1 ⟨c, e, z⟩ => ⟨c, e, ?_⟩
  obtain ⟨c', e', q⟩ := z
  cases e'
  exact q
theorem t_chain {o o' : COp} (h : tE S W T (.chain o o' a b c) σ H Q) : tChain (r2b S (cmpD o)) (r2b S (cmpD o')) (tE S W T a) (tE S W T b) (tE S W T c) σ H Q := by
  obtain ⟨env, w, μ, G, r, p⟩ := h
  rw [evE] at p
  refine ⟨env, w, μ, G, r, p.bnd1 r fun x w1 v H1 μ1 hk e1 r1 v1 f1 p1 => ⟨env, w1, μ1, _, r1, p1.bnd1 r1 fun y w2 u H2 μ2 hk2 e2 r2 v2 f2 p2 => ?_⟩⟩
  have v1' := v1.mono (w' := w2) hk r1 e2 gk_le (gk_new f2)
  cases hf : cmpD o x.2 y.2 with
  | none => rw [hf] at p2; exact False.elim p2
  | some k =>
    rw [hf] at p2
    refine ⟨_, μ2, x.2, y.2, k, hide_same _ _, v1'.sv r2, v2.sv r2, hf, k, rfl, ?_⟩
    cases k with
    | false => simpa using t_const r2 p2 fun _ _ => by simp only [Rep]
    | true =>
      have p2 : PostE S W σ H2 env μ2 _ Q (bnd (evE T c env w2) fun z w3 => lift ((cmpD o' y.2 z.2).map fun b => (Kd.val, D.bl b)) w3) := p2
      rw [if_pos rfl]
      refine ⟨env, w2, μ2, _, r2, p2.bnd r2 fun z w3 t H3 μ3 e3 r3 v3 f3 p3 => ?_⟩
      have v2' := v2.mono (w' := w3) hk2 r2 e3 gk_le (gk_new f3)
      cases hg : cmpD o' y.2 z.2 with
      | none => rw [hg] at p3; exact False.elim p3
      | some k' =>
        rw [hg] at p3
        exact ⟨_, μ3, y.2, z.2, k', hide_same _ _, v2'.sv r3, v3.sv r3, hg, t_const r3 p3 fun _ _ => by simp only [Rep]⟩

/-! ### lists of values -/
theorem PostL.back {x : M (List (Kd × D))} {Q : List V → Hp → Prop} (r : Rel S σ H env w μ G) (e : Ext H μ H1 μ1) (h : PostL S W σ H env μ G Q x) : PostL S W σ H1 env μ1 G Q x := by
  cases x with
  | none => exact h
  | some x => cases x with
    | exc c p w' => exact fun dx H' μ' e' r' x' => h dx H' μ' (e.trans e') r' x'
    | ok a w' => exact fun v H' μ' e' r' vr => h v H' μ' (e.trans e') r' vr
theorem t_nil {Q : List V → Hp → Prop} (h : tL S W T .nil σ H Q) : tNil σ H Q := by
  obtain ⟨env, w, μ, G, r, p⟩ := h
  rw [evL] at p
  exact p [] H μ (r.ext0 fun _ _ e => e) r .nil
theorem t_cons {Q : List V → Hp → Prop} (h : tL S W T (.cons a b) σ H Q) : tCons (tE S W T a) (tL S W T b) σ H Q := by
  obtain ⟨env, w, μ, G, r, p⟩ := h
  rw [evL] at p
  refine ⟨env, w, μ, G, r, ?_⟩
  cases hx : evE T a env w with
  | none => rw [hx] at p; exact p
  | some x => cases x with
    | exc c q w' => rw [hx] at p; exact p
    | ok x w1 =>
      rw [hx] at p
      intro v H1 μ1 e1 r1 v1 f1
      have hg : ∀ a, x.1 = Kd.own → v = V.ref a → ¬ G a := fun a h1 h2 z => r.wr.gd a (.inl z) (f1 a h1 h2)
      have r1' : Rel S σ H1 env w1 μ1 G := r1.mono gk_le
      have vl : VL S σ H1 env μ1 G x v := by
        obtain ⟨k, d⟩ := x
        cases k with
        | val => exact (v1.keep (e := d) hg r1 rfl).2
        | own => exact (v1.keep (e := d) hg r1 rfl).2
        | slot i => exact v1
        | cel => exact False.elim p
      refine ⟨env, w1, μ1, G, r1', ?_⟩
      have p : PostL S W σ H env μ G Q (bnd (evL T b env w1) fun xs w2 => ret (x :: xs) w2) := by
        obtain ⟨k, d⟩ := x
        cases k with
        | cel => exact False.elim p
        | _ => exact p
      have p := PostL.back r e1 p
      cases hy : evL T b env w1 with
      | none => rw [hy] at p; exact p
      | some y => cases y with
        | exc c q w' => rw [hy] at p; exact p
        | ok ys w2 =>
          rw [hy] at p
          exact fun vs H2 μ2 e2 r2 v2 => p (v :: vs) H2 μ2 e2 r2 (.cons (vl.mono r1' e2) v2)
/-- a list's end -/
theorem PostE.ofL {x : M (List (Kd × D))} {f : List (Kd × D) → Wd → M (Kd × D)} {Q' : List V → Hp → Prop} (h : PostE S W σ H env μ G Q (R.bnd x f)) (r : Rel S σ H env w μ G)
    (k : ∀ a w1 vs H1 μ1, Ext H μ H1 μ1 → Rel S σ H1 env w1 μ1 G → VLs S σ H1 env μ1 G a vs → PostE S W σ H1 env μ1 G Q (f a w1) → Q' vs H1) : PostL S W σ H env μ G Q' x := by
  cases x with
  | none => exact h
  | some x => cases x with
    | exc c p w' => exact h
    | ok a w' => exact fun v H' μ' e r' vr => k a w' v H' μ' e r' vr (PostE.back r e (fun _ z => z) h)
theorem VLs.keep : ∀ {xs : List (Kd × D)} {vs : List V} {ds : List D}, VLs S σ H env μ G xs vs → keepAll xs = some ds → Reps S (hide H (BB μ G env σ)) μ ds vs
  | [], _, ds, h, e => by
    cases h
    simp only [keepAll, Option.some.injEq] at e
    subst e
    exact Reps.nil
  | (k, d) :: xs, _, ds, h, e => by
    cases h with
    | cons h1 h2 =>
      simp only [keepAll] at e
      split at e
      · rename_i d' ds' e1 e2
        simp only [Option.some.injEq] at e
        subst e
        cases k with
        | val => cases e1; exact Reps.cons h1 (VLs.keep h2 e2)
        | own => cases e1; exact Reps.cons h1 (VLs.keep h2 e2)
        | slot i => cases e1
        | cel => cases e1
      · cases e
def lenL : CE → Nat
  | .cons _ r => lenL r + 1
  | _ => 0
theorem bnd_ok {α β : Type} {x : M α} {f : α → Wd → M β} {b : β} (h : bnd x f = some (.ok b w)) : ∃ a w1, x = some (.ok a w1) ∧ f a w1 = some (.ok b w) := by
  cases x with
  | none => cases h
  | some x => cases x with
    | exc c p w' => cases h
    | ok a w1 => exact ⟨a, w1, rfl, h⟩
theorem evL_len : ∀ (l : CE) (env : En) (w w' : Wd) (xs : List (Kd × D)), evL T l env w = some (.ok xs w') → xs.length = lenL l
  | .nil, env, w, w', xs, h => by rw [evL] at h; cases h; rfl
  | .cons a r, env, w, w', xs, h => by
    rw [evL] at h
    obtain ⟨x, w1, _, h2⟩ := bnd_ok h
    have h2 : bnd (evL T r env w1) (fun xs w2 => ret (x :: xs) w2) = some (.ok xs w') := by
      split at h2
      · cases h2
      · exact h2
    obtain ⟨ys, w2, h3, h4⟩ := bnd_ok h2
    cases h4
    rw [List.length_cons, evL_len r env w1 _ ys h3, lenL]
  | .var _, _, _, _, _, h | .int _, _, _, _, _, h | .str _, _, _, _, _, h | .bl _, _, _, _, _, h | .non, _, _, _, _, h | .gl _, _, _, _, _, h | .fn _, _, _, _, _, h | .rd _, _, _, _, _, h | .share _, _, _, _, _, h | .neg _, _, _, _, _, h | .rep _ _, _, _, _, _, h | .isx _ _, _, _, _, _, h
  | .bin _ _ _, _, _, _, _, h | .cmp _ _ _, _, _, _, _, h | .chain _ _ _ _ _, _, _, _, _, h | .and _ _, _, _, _, _, h | .or _ _, _, _, _, _, h | .not _, _, _, _, _, h | .ite _ _ _, _, _, _, _, h | .tup _, _, _, _, _, h | .lst _, _, _, _, _, h | .dic _, _, _, _, _, h
  | .idx _ _, _, _, _, _, h | .rix _ _, _, _, _, _, h | .slc _ _ _, _, _, _, _, h | .slce _ _ _, _, _, _, _, h | .rev2 _ _, _, _, _, _, h | .call _ _, _, _, _, _, h | .callv _ _, _, _, _, _, h | .blt _ _, _, _, _, _, h | .sortk _ _ _, _, _, _, _, h | .mth _ _ _, _, _, _, _, h
  | .um _ _ _, _, _, _, _, h | .new _ _, _, _, _, _, h | .attr _ _, _, _, _, _, h | .lc _ _ _ _ _, _, _, _, _, h | .lc2 _ _ _ _ _ _ _ _ _, _, _, _, _, h | .dc _ _ _ _ _ _, _, _, _, _, h | .dc2 _ _ _ _ _ _ _ _ _ _, _, _, _, _, h
  | .iv _, _, _, _, _, h | .ir _, _, _, _, _, h | .iz _, _, _, _, _, h | .ie _, _, _, _, _, h | .ik _, _, _, _, _, h | .ivl _, _, _, _, _, h | .iit _, _, _, _, _, h => by rw [evL] at h <;> first | cases h | (intros; simp_all)
theorem keepAll_len : ∀ {xs : List (Kd × D)} {ds : List D}, keepAll xs = some ds → ds.length = xs.length
  | [], ds, e => by simp only [keepAll, Option.some.injEq] at e; subst e; rfl
  | x :: xs, ds, e => by
    simp only [keepAll] at e
    split at e
    · rename_i d' ds' e1 e2
      simp only [Option.some.injEq] at e
      subst e
      simp [keepAll_len e2]
    · cases e
theorem t_tup (hz : lenL a ≤ 1000) (h : tE S W T (.tup a) σ H Q) : tTup (tL S W T a) σ H Q := by
  obtain ⟨env, w, μ, G, r, p⟩ := h
  rw [evE] at p
  refine ⟨env, w, μ, G, r, ?_⟩
  cases hx : evL T a env w with
  | none => rw [hx] at p; exact p
  | some x => cases x with
    | exc c q w' => rw [hx] at p; exact p
    | ok xs w1 =>
      rw [hx] at p
      intro vs H1 μ1 e1 r1 v1
      have p := PostE.back r e1 (fun _ z => z) p
      cases hk : keepAll xs with
      | none => unfold bnd at p; simp only [hk] at p; exact False.elim p
      | some ds =>
        unfold bnd at p
        simp only [hk] at p
        have rp := v1.keep hk
        have el : vs.length ≤ sizeLine := by
          rw [rp.length, keepAll_len hk, evL_len a env w w1 xs hx, sizeLine_eq]
          omega
        exact ⟨el, fun q hq => PostE.opv p r1 (same_new hq) (OV.tup (hide_same _ _) hq rp)⟩
theorem t_lst (hz : lenL a ≤ 1000) (h : tE S W T (.lst a) σ H Q) : tLst (tL S W T a) σ H Q := by
  obtain ⟨env, w, μ, G, r, p⟩ := h
  rw [evE] at p
  refine ⟨env, w, μ, G, r, ?_⟩
  cases hx : evL T a env w with
  | none => rw [hx] at p; exact p
  | some x => cases x with
    | exc c q w' => rw [hx] at p; exact p
    | ok xs w1 =>
      rw [hx] at p
      intro vs H1 μ1 e1 r1 v1
      have p := PostE.back r e1 (fun _ z => z) p
      cases hk : keepAll xs with
      | none => unfold bnd at p; simp only [hk] at p; exact False.elim p
      | some ds =>
        unfold bnd at p
        simp only [hk] at p
        have rp := v1.keep hk
        have el : vs.length ≤ sizeLine := by
          rw [rp.length, keepAll_len hk, evL_len a env w w1 xs hx, sizeLine_eq]
          omega
        exact ⟨el, fun q hq => PostE.opv p r1 (same_new hq) (OV.lst (hide_same _ _) hq rp)⟩
end
end R
end
section
set_option Elab.async false
set_option linter.all false
set_option maxRecDepth 100000
/-! RC4: slots set, wiped, told as frozen; calls; what a loop walks. -/
namespace R
open PySem PySem.Spec PyProof.Rows L2
section
variable {S : St0} {W : WX} {T : Tab} {σ σ' : L2.St} {H H' H1 : Hp} {env env' : En} {w w' w1 : Wd} {μ μ' μ1 : List Addr} {G G' G1 : Addr → Prop} {Q Q' : VK} {a b c : CE}

theorem En.set_get {env : En} {i j : Nat} {x y : Sl} (h : (env.set i x)[j]? = some y) : (j = i ∧ y = x) ∨ (j ≠ i ∧ env[j]? = some y) := by
  rw [List.getElem?_set] at h
  by_cases e : i = j
  · subst e
    rw [if_pos rfl] at h
    split at h
    · cases h; exact .inl ⟨rfl, rfl⟩
    · cases h
  · rw [if_neg e] at h
    exact .inr ⟨fun z => e z.symm, h⟩
theorem St.set_ne {σ : L2.St} {i j : Nat} {x : Option V} (h : j ≠ i) : (σ.set i x)[j]? = σ[j]? := List.getElem?_set_ne (fun z => h z.symm)
/-- a slot that holds nothing of its own is set, or forgotten -/
theorem own_set {i : Nat} {x : Sl} {y : Option V} (hx : ∀ d, x ≠ .own d) (a : Addr) (h : ownAt (env.set i x) (σ.set i y) a) : ownAt env σ a := by
  obtain ⟨j, d, h1, h2⟩ := h
  rcases En.set_get h1 with ⟨rfl, e⟩ | ⟨ne, e⟩
  · exact absurd e.symm (hx d)
  · exact ⟨j, d, e, by rw [St.set_ne ne] at h2; exact h2⟩
theorem Rel.less (r : Rel S σ H env w μ G) (hl : env'.length = σ'.length) (ho : ∀ a, ownAt env' σ' a → ownAt env σ a) (hv : ∀ (i : Nat) (d : D), env'[i]? = some (.val d) → ∃ v, σ'[i]? = some (some v) ∧ Rep S (hide H (BB μ G env' σ')) μ d v)
    (hw : ∀ (i : Nat) (d : D), env'[i]? = some (.own d) → env[i]? = some (.own d) ∧ σ'[i]? = σ[i]?) : Rel S σ' H env' w μ G := by
  have fz : Same (hide H (BB μ G env σ)) (hide H (BB μ G env' σ')) := hide_mono (fun _ _ e _ => e) fun b o _ nb z => nb (z.imp_right fun q => q.imp_right (ho b))
  refine ⟨r.wr.mono fun b z => z.imp_right (ho b), hl, hv, fun i d h => ?_, fun i j d e a h1 h2 h3 h4 => ?_⟩
  · obtain ⟨h1, h2⟩ := hw i d h
    obtain ⟨a, q1, q2, q3⟩ := r.own i d h1
    exact ⟨a, h2.trans q1, q2, q3.mono fz (Pre.refl _) fun o q => q⟩
  · obtain ⟨p1, p2⟩ := hw i d h1
    obtain ⟨p3, p4⟩ := hw j e h2
    exact r.uniq i j d e a p1 p3 (p2 ▸ h3) (p4 ▸ h4)
theorem Rel.setV {i : Nat} {d : D} {v : V} (r : Rel S σ H env w μ G) (rp : Rep S (hide H (BB μ G env σ)) μ d v) : Rel S (σ.set i (some v)) H (env.set i (.val d)) w μ G := by
  have ho := own_set (env := env) (σ := σ) (i := i) (x := .val d) (y := some v) fun e z => by cases z
  have fz : Same (hide H (BB μ G env σ)) (hide H (BB μ G (env.set i (.val d)) (σ.set i (some v)))) := hide_mono (fun _ _ e _ => e) fun b o _ nb z => nb (z.imp_right fun q => q.imp_right (ho b))
  refine r.less (by simp [r.len]) ho (fun j e h => ?_) fun j e h => ?_
  · rcases En.set_get h with ⟨rfl, q⟩ | ⟨ne, q⟩
    · cases q
      refine ⟨v, ?_, Rep.mono fz (Pre.refl _) _ _ rp⟩
      have hj : j < σ.length := by
        have := (List.getElem?_eq_some_iff.mp h).1
        rw [← r.len]
        simpa using this
      rw [List.getElem?_set_self hj]
    · obtain ⟨u, h1, h2⟩ := r.val j e q
      exact ⟨u, by rw [St.set_ne ne]; exact h1, Rep.mono fz (Pre.refl _) _ _ h2⟩
  · rcases En.set_get h with ⟨rfl, q⟩ | ⟨ne, q⟩
    · cases q
    · exact ⟨q, St.set_ne ne⟩
theorem Rel.wipe1 {i : Nat} (r : Rel S σ H env w μ G) : Rel S (σ.set i none) H (env.set i .no) w μ G := by
  have ho := own_set (env := env) (σ := σ) (i := i) (x := .no) (y := none) fun e z => by cases z
  have fz : Same (hide H (BB μ G env σ)) (hide H (BB μ G (env.set i .no) (σ.set i none))) := hide_mono (fun _ _ e _ => e) fun b o _ nb z => nb (z.imp_right fun q => q.imp_right (ho b))
  refine r.less (by simp [r.len]) ho (fun j e h => ?_) fun j e h => ?_
  · rcases En.set_get h with ⟨rfl, q⟩ | ⟨ne, q⟩
    · cases q
    · obtain ⟨u, h1, h2⟩ := r.val j e q
      exact ⟨u, by rw [St.set_ne ne]; exact h1, Rep.mono fz (Pre.refl _) _ _ h2⟩
  · rcases En.set_get h with ⟨rfl, q⟩ | ⟨ne, q⟩
    · cases q
    · exact ⟨q, St.set_ne ne⟩
theorem Rel.wipe (r : Rel S σ H env w μ G) : ∀ vs : List Nat, Rel S (L2.wipe σ vs) H (wipeE env vs) w μ G
  | [] => r
  | v :: vs => (Rel.wipe r vs).wipe1
theorem Rel.frz {i : Nat} (r : Rel S σ H env w μ G) : Rel S σ H (frzE env i) w μ G := by
  unfold frzE
  split
  · rename_i d hd
    obtain ⟨a, h1, h2, h3⟩ := r.own i d hd
    have ho : ∀ b, ownAt (env.set i (.val d)) σ b → ownAt env σ b ∧ b ≠ a := fun b ⟨j, e, p1, p2⟩ => by
      rcases En.set_get p1 with ⟨rfl, q⟩ | ⟨ne, q⟩
      · cases q
      · refine ⟨⟨j, e, q, p2⟩, fun z => ne (r.uniq j i e d a q hd (z ▸ p2) h1)⟩
    have fz : Same (hide H (BB μ G env σ)) (hide H (BB μ G (env.set i (.val d)) σ)) := hide_mono (fun _ _ e _ => e) fun b o _ nb z => nb (z.imp_right fun q => q.imp_right fun t => (ho b t).1)
    refine r.less (by simp [r.len]) (fun b t => (ho b t).1) (fun j e h => ?_) fun j e h => ?_
    · rcases En.set_get h with ⟨rfl, q⟩ | ⟨ne, q⟩
      · cases q
        refine ⟨_, h1, (h3.mono fz (Pre.refl _) fun o q => q).rep fun o q => hide_of q fun z => ?_⟩
        rcases z with z | z | z
        · exact r.own_nc ⟨j, d, hd, h1⟩ z
        · exact h2 z
        · exact (ho a z).2 rfl
      · obtain ⟨u, p1, p2⟩ := r.val j e q
        exact ⟨u, p1, Rep.mono fz (Pre.refl _) _ _ p2⟩
    · rcases En.set_get h with ⟨rfl, q⟩ | ⟨ne, q⟩
      · cases q
      · exact ⟨q, rfl⟩
  · exact r
theorem Rel.frzI {c : CE} (r : Rel S σ H env w μ G) : Rel S σ H (frzI c env) w μ G := by
  unfold R.frzI
  split
  · exact r.frz
  · exact r
theorem frzI_own {c : CE} (a : Addr) (h : ownAt (R.frzI c env) σ a) : ownAt env σ a := by
  unfold R.frzI at h
  split at h
  · rename_i i
    unfold frzE at h
    split at h
    · obtain ⟨j, e, h1, h2⟩ := h
      rcases En.set_get h1 with ⟨rfl, q⟩ | ⟨ne, q⟩
      · cases q
      · exact ⟨j, e, q, h2⟩
    · exact h
  · exact h

/-! ### targets -/
def gMany : List Nat → TGs
  | [] => gNil
  | i :: is => gCons (gName i) (gMany is)
def gD (K : PySem.W.Frag) : Tg → TG
  | .one i => gName i
  | .many is => gTup K is.length (gMany is)
theorem g_many {F : Hp} (Q : L2.St → Hp → Prop) : ∀ {is : List Nat} {ds : List D} {vs : List V} {env env' : En} {σ : L2.St}, Rel S σ H env w μ G → Reps S (hide H (BB μ G env σ)) μ ds vs → setMany is ds env = some env' →
    (∀ σ', Rel S σ' H env' w μ G → (∃ us : List V, us.length = is.length ∧ σ' = (is.zip us).foldl (fun s p => s.set p.1 (some p.2)) σ) → Q σ' H) → gMany is vs σ H Q
  | [], [], vs, env, env', σ, r, rp, e, q => by
    simp only [setMany, Option.some.injEq] at e
    subst e
    exact ⟨rp.inv0, q σ r ⟨[], rfl, rfl⟩⟩
  | [], _ :: _, vs, env, env', σ, r, rp, e, q => by cases e
  | _ :: _, [], vs, env, env', σ, r, rp, e, q => by cases e
  | i :: is, d :: ds, vs, env, env', σ, r, rp, e, q => by
    obtain ⟨v, t, rfl, h1, h2⟩ := rp.inv
    have ho := own_set (env := env) (σ := σ) (i := i) (x := .val d) (y := some v) fun e z => by cases z
    have fz : Same (hide H (BB μ G env σ)) (hide H (BB μ G (env.set i (.val d)) (σ.set i (some v)))) := hide_mono (fun _ _ e _ => e) fun b o _ nb z => nb (z.imp_right fun q => q.imp_right (ho b))
    refine ⟨v, t, rfl, ?_⟩
    refine g_many (F := F) Q (r.setV h1) (Reps.mono fz (Pre.refl _) _ _ h2) e fun σ' r' ⟨us, hl, hs⟩ => q σ' r' ⟨v :: us, by simp [hl], hs⟩
def tgIs : Tg → List Nat
  | .one i => [i]
  | .many is => is
def setAll (σ : L2.St) (is : List Nat) (us : List V) : L2.St := (is.zip us).foldl (fun s p => s.set p.1 (some p.2)) σ
theorem g_bind {tg : Tg} {d : D} {v : V} {Q : L2.St → Hp → Prop} (r : Rel S σ H env w μ G) (rp : Rep S (hide H (BB μ G env σ)) μ d v) (e : bindTg tg d env = some env')
    (q : ∀ us : List V, us.length = (tgIs tg).length → Rel S (setAll σ (tgIs tg) us) H env' w μ G → Q (setAll σ (tgIs tg) us) H) : gD S.K tg v σ H Q := by
  cases tg with
  | one i =>
    simp only [bindTg, set1, Option.some.injEq] at e
    subst e
    exact q [v] rfl (r.setV rp)
  | many is =>
    cases d with
    | tup ds =>
      simp only [bindTg] at e
      simp only [Rep] at rp
      obtain ⟨a, vs, rfl, h1, h2⟩ := rp
      have hl : ∀ {is : List Nat} {ds : List D} {env : En}, setMany is ds env = some env' → ds.length = is.length := fun {is} => by
        induction is with
        | nil => intro ds env e; cases ds with
          | nil => rfl
          | cons _ _ => cases e
        | cons i is ih => intro ds env e; cases ds with
          | nil => cases e
          | cons d ds => simp [ih (ds := ds) e]
      refine ⟨a, vs, rfl, Same.sqT (hide_same _ _) h1, by rw [h2.length]; exact hl e, g_many (F := H) Q r h2 e fun σ' r' ⟨us, hu, hs⟩ => ?_⟩
      subst hs
      exact q us hu r'
    | _ => cases e
theorem wipe_set {σ : L2.St} {i : Nat} {v : Option V} : ∀ {vs : List Nat}, i ∈ vs → L2.wipe (σ.set i v) vs = L2.wipe σ vs := fun {vs} h => by
  have get : ∀ (σ : L2.St) (vs : List Nat) (j : Nat), (L2.wipe σ vs)[j]? = if j ∈ vs ∧ j < σ.length then some none else σ[j]? := fun σ vs => by
    induction vs with
    | nil => intro j; simp [L2.wipe]
    | cons x vs ih =>
      intro j
      rw [L2.wipe, List.getElem?_set, L2.wipe_length]
      by_cases e : x = j
      · subst e
        rw [if_pos rfl]
        by_cases l : x < σ.length
        · rw [if_pos l, if_pos ⟨List.mem_cons_self, l⟩]
        · rw [if_neg l, if_neg fun z => l z.2, List.getElem?_eq_none (by omega)]
      · rw [if_neg e, ih j]
        have : (j ∈ x :: vs) ↔ (j ∈ vs) := by simp [show ¬ j = x from fun z => e z.symm]
        simp only [this]
  apply List.ext_getElem?
  intro j
  rw [get, get, List.length_set]
  by_cases hj : j ∈ vs ∧ j < σ.length
  · rw [if_pos hj, if_pos hj]
  · rw [if_neg hj, if_neg hj]
    by_cases e : j = i
    · subst e
      have : ¬ j < σ.length := fun z => hj ⟨h, z⟩
      rw [List.getElem?_eq_none (by simpa using this), List.getElem?_eq_none (by omega)]
    · exact St.set_ne e
theorem wipe_setAll : ∀ {is : List Nat} {us : List V} {σ : L2.St} {vs : List Nat}, (∀ i, i ∈ is → i ∈ vs) → L2.wipe (setAll σ is us) vs = L2.wipe σ vs
  | [], us, σ, vs, _ => by simp [setAll]
  | i :: is, [], σ, vs, _ => by simp [setAll]
  | i :: is, u :: us, σ, vs, h => by
    have := wipe_setAll (is := is) (us := us) (σ := σ.set i (some u)) (vs := vs) fun j hj => h j (List.mem_cons_of_mem _ hj)
    unfold setAll at this ⊢
    rw [List.zip_cons_cons, List.foldl_cons, this]
    exact wipe_set (h i List.mem_cons_self)
theorem wipe_wipe {σ : L2.St} : ∀ vs : List Nat, L2.wipe (L2.wipe σ vs) vs = L2.wipe σ vs := fun vs => by
  have : ∀ (us : List Nat) (τ : L2.St), (∀ u ∈ us, u ∈ vs) → L2.wipe (L2.wipe τ us) vs = L2.wipe τ vs := by
    intro us
    induction us with
    | nil => intro τ _; rfl
    | cons u us ih =>
      intro τ h
      rw [show L2.wipe τ (u :: us) = (L2.wipe τ us).set u none from rfl, wipe_set (h u List.mem_cons_self), ih τ fun x hx => h x (List.mem_cons_of_mem _ hx)]
  exact this vs σ fun _ h => h

/-! ### calls -/
theorem VLs.plain : ∀ {xs : List (Kd × D)} {vs : List V}, VLs S σ H env μ G xs vs → xs.any isSlot = false → Reps S (hide H (BB μ G env σ)) μ (xs.map (·.2)) vs
  | [], _, h, _ => by cases h; exact Reps.nil
  | (k, d) :: xs, _, h, e => by
    cases h with
    | cons h1 h2 =>
      rw [List.any_cons, Bool.or_eq_false_iff] at e
      cases k with
      | val => exact Reps.cons h1 (VLs.plain h2 e.2)
      | own => exact Reps.cons h1 (VLs.plain h2 e.2)
      | slot i => cases e.1
      | cel => exact h1.elim
theorem hide_bb {H : Hp} {B B' : Addr → Prop} (h : ∀ b, B b ↔ B' b) : hide H B = hide H B' := by
  have : B = B' := funext fun b => propext (h b)
  rw [this]
theorem t_call {f : Nat} (h : tE S W T (.call f a) σ H Q) : tCallS (spF S (T.call f)) (WE W) (tL S W T a) σ H Q := by
  obtain ⟨env, w, μ, G, r, p⟩ := h
  rw [evE] at p
  refine ⟨env, w, μ, G, r, p.ofL r fun xs w1 vs H1 μ1 e1 r1 v1 p1 => ?_⟩
  unfold callR at p1
  split at p1
  · exact p1.elim
  · rename_i hs
    have rp := v1.plain (by simpa using hs)
    refine ⟨xs.map (·.2), w1, μ1, GO G env σ, r1.wr, rp, ?_⟩
    cases hx : T.call f (xs.map (·.2)) w1 with
    | none => rw [hx] at p1; exact p1.elim
    | some x =>
      rw [hx] at p1
      cases x with
      | exc c q w' =>
        intro dx H2 μ2 e2 wr2 x2
        exact p1 dx H2 μ2 e2 (r1.ext e2 wr2) x2
      | ok x w' =>
        obtain ⟨k, d⟩ := x
        cases k with
        | val =>
          intro v H2 μ2 e2 wr2 rp2
          refine p1 v H2 μ2 e2 (r1.extG e2 (wr2.mono fun b z => z.imp_left (gk_not (by simp) b)) fun b z => .inl (gk_not (by simp) b z)) ?_ fun a z => by cases z
          refine Rep.mono (hide_mono (fun _ _ e _ => e) fun b o _ nb z => nb (z.imp_right fun q => q.imp_left (gk_not (by simp) b))) (Pre.refl _) _ _ rp2
        | own =>
          intro a H2 μ2 e2 hn wr2 c2
          have hq : ∀ b, gk G Kd.own (V.ref a) b → G b ∨ b = a := fun b z => z.imp_right fun y => by injection y.2 with e; exact e.symm
          refine p1 _ H2 μ2 e2 (r1.extG e2 (wr2.mono fun b z => ?_) fun b z => (hq b z).imp_right fun y => by rw [y]; exact hn) ⟨a, rfl, .inr ⟨rfl, rfl⟩, fun z => r1.ownD z hn, ?_⟩ fun b _ z => by
            have e : a = b := by injection z
            exact e ▸ hn
          · rcases z with z | z
            · exact (hq b z).imp_left .inl
            · exact .inl (.inr z)
          · refine c2.mono (hide_mono (fun _ _ e _ => e) fun b o _ nb z => nb ?_) (Pre.refl _) fun _ q => q
            rcases z with z | z | z
            · exact .inl z
            · exact .inr ((hq b z).imp_left .inl)
            · exact .inr (.inl (.inr z))
        | slot i => exact p1.elim
        | cel => exact p1.elim
end
end R
end
section
set_option Elab.async false
set_option linter.all false
set_option maxRecDepth 100000
/-! RC5: what a loop walks, by the evaluator; comprehensions. -/
namespace R
open PySem PySem.Spec PyProof.Rows L2
/-- no list or tuple is too long -/
def Bd (K : PySem.W.Frag) (H : Hp) : Prop := ∀ a xs, (SqL K H a xs ∨ SqT K H a xs) → xs.length ≤ sizeLine
theorem PI.bd {X : Cx} {tg e : Expr} {wi : TI} (h : PI X tg e wi) : PI X tg e (fun σ H R => wi σ H fun J H1 => Bd X.K H1 → R J H1) :=
  ⟨fun pins s σ H R I hw => thn (h.run pins s σ H _ I hw) fun v s1 h1 => thn h1 fun itv s2 ⟨it, fp, tn, J, H', e1, I', t, st, f, q⟩ => ⟨it, fp, tn, J, H', e1, I', t, st, f, q fun a xs z => by
    rcases z with z | z
    · obtain ⟨_, _, _, hz⟩ := I'.list z; exact hz
    · obtain ⟨_, _, _, hz⟩ := I'.tuple z; exact hz⟩⟩
/-- a list or a tuple -/
def iSeq (K : PySem.W.Frag) (te : TE) : TI := fun σ H R => te σ H fun x H1 => ∃ a xs, x = .ref a ∧ ((SqL K H1 a xs ∧ R (Itl K a) H1) ∨ (SqT K H1 a xs ∧ R (Itt K a) H1))
theorem pi_seq {X : Cx} {tg l : Expr} {te : TE} (hl : PE X l te) : PI X tg l (iSeq X.K te) := by
  refine ⟨fun pins s σ H R I h => thn (hl.run pins s σ H _ I h) fun v s1 ⟨x, H1, I1, r1, a, xs, e, q⟩ => ?_⟩
  subst e
  cases r1
  have fresh : ∀ b, b ∈ [s1.heap.objs.size] → FpOk X pins H1 b := fun b hb => by
    rw [List.mem_singleton] at hb
    rw [hb]
    exact I1.fpOk (Nat.le_refl _) (I1.hok.fresh (Nat.le_refl _))
  rcases q with ⟨hq, q⟩ | ⟨hq, q⟩
  · obtain ⟨its, rv, p, hz⟩ := I1.list hq
    exact wpAny_pyIter_list p.isList ⟨_, _, _, _, H1, rfl, I1.kept (t' := s1.toks) fun b o e => Heap.get?_push_of_some _ e, turn_list a _, ⟨_, Heap.get?_push_size _ rfl, rfl, rfl⟩, fresh, q⟩
  · obtain ⟨its, rv, p, hz⟩ := I1.tuple hq
    exact wpAny_pyIter_tuple (show s1.heap.IsTuple a its.toArray from p) ⟨_, _, _, _, H1, rfl, I1.kept (t' := s1.toks) fun b o e => Heap.get?_push_of_some _ e, turn_tuple a _, ⟨_, Heap.get?_push_size _ rfl, rfl, rfl⟩, fresh, q⟩

/-- a walk over the data xs: Ks is what it reads, F0 what was frozen at its start -/
def WK (S : St0) (J : It) (xs : List D) (Ks F0 : Hp) (μ : List Addr) : Prop :=
  Walk J xs.length (fun H => Same Ks H) fun i H x H' => Same H H' ∧ ∀ d, xs[i]? = some d → ∀ F, Same F0 F → Same F H → Rep S (grow F H H') μ d x
def PostI (S : St0) (W : WX) (σ : L2.St) (H : Hp) (env : En) (μ : List Addr) (G : Addr → Prop) (c : CE) (R : It → Hp → Prop) : M (List D) → Prop
  | some (.ok xs w') => ∀ J H' μ' Ks, Ext H μ H' μ' → Rel S σ H' env w' μ' G → WK S J xs Ks (hide H' (BB μ' G env σ)) μ' → (∀ b o, Ks b = some o → H' b = some o ∧ b ∉ μ' ∧ ¬ ownAt (frzI c env) σ b ∧ ¬ G b) → xs.length ≤ sizeLine → R J H'
  | some (.exc c p w') => ∀ dx H' μ', Ext H μ H' μ' → Rel S σ H' env w' μ' G → ExcR S (hide H' (BB μ' G env σ)) μ' p dx H' → W (S.exv c) dx σ H'
  | none => False
def tI (S : St0) (W : WX) (T : Tab) (c : CE) : TI := fun σ H R => ∃ env w μ G, Rel S σ H env w μ G ∧ PostI S W σ H env μ G c R (evI T c env w)
section
variable {S : St0} {W : WX} {T : Tab} {σ σ' : L2.St} {H H' H1 : Hp} {env env' : En} {w w' w1 : Wd} {μ μ' μ1 : List Addr} {G G' G1 : Addr → Prop} {Q Q' : VK} {a b c : CE} {R : It → Hp → Prop}
theorem PostI.back {x : M (List D)} (e : Ext H μ H1 μ1) (h : PostI S W σ H env μ G c R x) : PostI S W σ H1 env μ1 G c R x := by
  cases x with
  | none => exact h
  | some x => cases x with
    | exc c p w' => exact fun dx H' μ' e' r' x' => h dx H' μ' (e.trans e') r' x'
    | ok a w' => exact fun J H' μ' Ks e' r' wk hk hz => h J H' μ' Ks (e.trans e') r' wk hk hz
theorem upd_at {H : Hp} {p b : Addr} {o : HO} (h : upd H p o b ≠ none) (hn : H b = none) : b = p := by
  by_cases e : b = p
  · exact e
  · rw [upd_ne e] at h; exact absurd hn h
/-- items as they stand -/
theorem wk_at {J : It} {xs : List D} {vs : List V} {Ks F0 : Hp} {P : Hp → Prop} (wk : Walk J vs.length P (YAt vs)) (hP : ∀ H, Same Ks H → P H) (rp : Reps S F0 μ xs vs) : WK S J xs Ks F0 μ := by
  unfold WK
  rw [← rp.length]
  refine wk.mono hP fun i H x H' _ _ ⟨e, hx⟩ => ?_
  subst e
  refine ⟨fun _ _ z => z, fun d hd F h0 h1 => ?_⟩
  obtain ⟨d', e', rd⟩ := rp.getV hx
  rw [hd] at e'
  cases e'
  exact Rep.mono (fun b o z => grow_old h1 b o (h0 b o z)) (Pre.refl _) _ _ rd
/-- items in new pairs -/
theorem wk_pair {J : It} {n : Nat} {f g : Nat → Option V} {Ks F0 : Hp} {P : Hp → Prop} (wk : Walk J n P (YPair f g)) (hP : ∀ H, Same Ks H → P H) (zs : List D) (hn : zs.length = n)
    (hz : ∀ i z x y, zs[i]? = some z → f i = some x → g i = some y → ∃ a b, z = .tup [a, b] ∧ Rep S F0 μ a x ∧ Rep S F0 μ b y) : WK S J zs Ks F0 μ := by
  unfold WK
  rw [hn]
  refine wk.mono hP fun i H v H' _ hs ⟨T, x, y, e1, e2, e3, e4, e5⟩ => ?_
  subst e1 e3
  refine ⟨same_new e2, fun d hd F h0 h1 => ?_⟩
  · obtain ⟨a, b, rfl, r1, r2⟩ := hz i d x y hd e4 e5
    simp only [Rep]
    refine ⟨T, [x, y], rfl, .of (by rw [grow_new e2, upd_same]), ?_⟩
    have m : Same F0 (grow F H (upd H T (.tup [x, y]))) := fun b o z => grow_old h1 b o (h0 b o z)
    exact Reps.cons (Rep.mono m (Pre.refl _) _ _ r1) (Reps.cons (Rep.mono m (Pre.refl _) _ _ r2) Reps.nil)
theorem evI_exc {x : M (List (Kd × D))} {f : List (Kd × D) → Wd → M (List D)} {Q : List V → Hp → Prop} (h : PostI S W σ H env μ G c R (bnd x f))
    (k : ∀ a w1 vs H1 μ1, Ext H μ H1 μ1 → Rel S σ H1 env w1 μ1 G → VLs S σ H1 env μ1 G a vs → PostI S W σ H1 env μ1 G c R (f a w1) → Q vs H1) : PostL S W σ H env μ G Q x := by
  cases x with
  | none => exact h
  | some x => cases x with
    | exc c p w' => exact h
    | ok a w' => exact fun v H' μ' e r' vr => k a w' v H' μ' e r' vr (PostI.back e h)
/-- the frozen part may be read -/
theorem PostI.frz (r : Rel S σ H env w μ G) {J : It} {xs : List D} (h : PostI S W σ H env μ G c R (ret xs w)) (wk : WK S J xs (hide H (BB μ G env σ)) (hide H (BB μ G env σ)) μ) (hz : xs.length ≤ sizeLine) : R J H :=
  h J H μ _ (r.ext0 fun _ _ e => e) r wk (fun b o q => by
    obtain ⟨q1, q2⟩ := of_hide q
    exact ⟨q1, fun z => q2 (.inl z), fun z => q2 (.inr (.inr (frzI_own b z))), fun z => q2 (.inr (.inl z))⟩) hz
theorem sqL_of {K : PySem.W.Frag} {a : Addr} {xs : List V} (h : Rd H a (.lst xs)) : SqL K H a xs := .inl h
theorem t_iv (h : tI S W T (.iv a) σ H R) : iSeq S.K (tE S W T a) σ H fun J H1 => Bd S.K H1 → R J H1 := by
  obtain ⟨env, w, μ, G, r, p⟩ := h
  rw [evI] at p
  refine ⟨env, w, μ, G, r, ?_⟩
  cases hx : evE T a env w with
  | none => rw [hx] at p; exact p
  | some x => cases x with
    | exc c q w' => rw [hx] at p; exact p
    | ok x w1 =>
      rw [hx] at p
      intro v H1 μ1 e1 r1 v1 f1
      replace p := PostI.back e1 p
      replace p : PostI S W σ H1 env μ1 G (.iv a) R (if okI a x then lift (itemsD x.2) w1 else none) := p
      by_cases ok : okI a x = true
      · rw [if_pos ok] at p
        have r1' : Rel S σ H1 env w1 μ1 G := r1.mono gk_le
        obtain ⟨k, d⟩ := x
        cases hs : itemsD d with
        | none => rw [hs] at p; exact p.elim
        | some xs =>
          rw [hs] at p
          have flat : Rep S (hide H1 (BB μ1 G env σ)) μ1 d v → ∃ a xs, v = .ref a ∧ ((SqL S.K H1 a xs ∧ (Bd S.K H1 → R (Itl S.K a) H1)) ∨ (SqT S.K H1 a xs ∧ (Bd S.K H1 → R (Itt S.K a) H1))) := fun rp => by
            cases d with
            | lst ds =>
              cases hs
              simp only [Rep] at rp
              obtain ⟨b, vs, rfl, q1, q2⟩ := rp
              have q1' := Same.sqL (hide_same _ _) q1
              exact ⟨b, vs, rfl, .inl ⟨q1', fun bd => PostI.frz r1' p (wk_at walk_list (fun H2 e => Same.sqL e q1) q2) (by rw [← q2.length]; exact bd b vs (.inl q1'))⟩⟩
            | tup ds =>
              cases hs
              simp only [Rep] at rp
              obtain ⟨b, vs, rfl, q1, q2⟩ := rp
              have q1' := Same.sqT (hide_same _ _) q1
              exact ⟨b, vs, rfl, .inr ⟨q1', fun bd => PostI.frz r1' p (wk_at walk_tup (fun H2 e => Same.sqT e q1) q2) (by rw [← q2.length]; exact bd b vs (.inr q1'))⟩⟩
            | _ => cases hs
          cases k with
          | val => exact flat (v1.keep (e := d) (fun a h1 h2 z => r.wr.gd a (.inl z) (f1 a h1 h2)) r1 rfl).2
          | own => exact flat (v1.keep (e := d) (fun a h1 h2 z => r.wr.gd a (.inl z) (f1 a h1 h2)) r1 rfl).2
          | cel => cases ok
          | slot i =>
            cases a with
            | var i' =>
              have e : i = i' := by simpa [okI, isVarC] using ok
              subst e
              obtain ⟨b, rfl, h1, h2⟩ := v1
              obtain ⟨b', h3, h4, h5⟩ := r1'.own i d h1
              rw [h2] at h3
              cases h3
              cases d with
              | lst ds =>
                cases hs
                obtain ⟨vs, q1, q2⟩ := h5
                have q0 : Rd (fun b' => if b' = b then H1 b' else none) b (.lst vs) := .of (by simpa using q1)
                refine ⟨b, vs, rfl, .inl ⟨sqL_of (.of q1), fun bd => p _ H1 μ1 (fun b' => if b' = b then H1 b' else none) (r1'.ext0 fun _ _ e => e) r1' (wk_at walk_list (fun H2 e => sqL_of (Same.rd e q0)) q2) (fun b' o z => ?_) (by rw [← q2.length]; exact bd b vs (.inl (sqL_of (.of q1))))⟩⟩
                split at z
                · rename_i eb
                  subst eb
                  refine ⟨z, r1'.own_nc ⟨i, _, h1, h2⟩, fun y => ?_, h4⟩
                  obtain ⟨j, e, y1, y2⟩ := y
                  simp only [frzI, frzE, h1] at y1
                  rcases En.set_get y1 with ⟨rfl, q⟩ | ⟨ne, q⟩
                  · cases q
                  · exact ne (r1'.uniq j i e _ _ q h1 y2 h2)
                · cases z
              | _ => first | exact h5.elim | cases hs
            | _ => cases ok
      · rw [if_neg ok] at p
        exact p.elim

theorem VL.intD {k : Kd} {b : Int} {v : V} (r : Rel S σ H env w μ G) (h : VL S σ H env μ G (k, .int b) v) : v = .int b := by
  cases k with
  | val => simpa only [VL, Rep] using h
  | own => simpa only [VL, Rep] using h
  | slot i =>
    obtain ⟨a, rfl, h1, h2⟩ := h
    obtain ⟨a', h3, h4, h5⟩ := r.own i _ h1
    exact h5.elim
  | cel => exact h.elim
theorem wk_range {lo : Int} {n : Nat} {Ks F0 : Hp} {f : Nat → D} (hf : ∀ i, f i = .int (lo + (i : Nat))) : WK S (Itr lo n) ((List.range n).map f) Ks F0 μ := by
  unfold WK
  rw [List.length_map, List.length_range]
  refine walk_range.mono (fun _ _ => trivial) fun i H x H' hi _ ⟨e1, e2⟩ => ?_
  subst e1 e2
  refine ⟨fun _ _ z => z, fun d hd F _ _ => ?_⟩
  rw [List.getElem?_map, List.getElem?_range hi, Option.map_some] at hd
  cases hd
  rw [hf]
  simp only [Rep]
theorem range_1 {k : Kd} {d : D} {zs : List D} (h : rangeD [(k, d)] = some zs) : ∃ n : Int, d = .int n ∧ (-1000000000 ≤ n ∧ n ≤ 16777216) ∧ zs = (List.range n.toNat).map fun (i : Nat) => D.int (i : Nat) := by
  cases d with
  | int n =>
    by_cases hn : -1000000000 ≤ n ∧ n ≤ 16777216
    · simp only [rangeD, if_pos hn, Option.some.injEq] at h
      exact ⟨n, rfl, hn, h.symm⟩
    · simp only [rangeD, if_neg hn] at h
      cases h
  | _ => simp only [rangeD] at h; cases h
theorem range_2 {k k2 : Kd} {d d2 : D} {zs : List D} (h : rangeD [(k, d), (k2, d2)] = some zs) : ∃ a b : Int, d = .int a ∧ d2 = .int b ∧ (b - a ≤ 16777216 ∧ -1000000000 ≤ a ∧ a ≤ 1000000000 ∧ -1000000000 ≤ b ∧ b ≤ 1000000000) ∧ zs = (List.range (b - a).toNat).map fun (i : Nat) => D.int (a + (i : Nat)) := by
  cases d with
  | int a =>
    cases d2 with
    | int b =>
      by_cases hn : b - a ≤ 16777216 ∧ -1000000000 ≤ a ∧ a ≤ 1000000000 ∧ -1000000000 ≤ b ∧ b ≤ 1000000000
      · simp only [rangeD, if_pos hn, Option.some.injEq] at h
        exact ⟨a, b, rfl, rfl, hn, h.symm⟩
      · simp only [rangeD, if_neg hn] at h
        cases h
    | _ => simp only [rangeD] at h; cases h
  | _ => simp only [rangeD] at h; cases h
theorem evI_l {f : List (Kd × D) → Wd → M (List D)} {l : CE} {Q : List V → Hp → Prop} (r : Rel S σ H env w μ G) (h : PostI S W σ H env μ G c R (bnd (evL T l env w) f))
    (k : ∀ xs w1 vs H1 μ1, Rel S σ H1 env w1 μ1 G → VLs S σ H1 env μ1 G xs vs → xs.length = lenL l → PostI S W σ H1 env μ1 G c R (f xs w1) → Q vs H1) : tL S W T l σ H Q := by
  refine ⟨env, w, μ, G, r, ?_⟩
  cases hx : evL T l env w with
  | none => rw [hx] at h; exact h
  | some x => cases x with
    | exc c q w' => rw [hx] at h; exact h
    | ok xs w1 =>
      rw [hx] at h
      exact fun vs H1 μ1 e1 r1 v1 => k xs w1 vs H1 μ1 r1 v1 (evL_len l env w w1 xs hx) (PostI.back e1 h)
theorem t_ir1 (hl : lenL a = 1) (h : tI S W T (.ir a) σ H R) : iRng1 (tL S W T a) σ H R := by
  obtain ⟨env, w, μ, G, r, p⟩ := h
  rw [evI] at p
  refine evI_l r p fun xs w1 vs H1 μ1 r1 v1 len p1 => ?_
  rw [hl] at len
  cases hz : rangeD xs with
  | none => rw [hz] at p1; exact p1.elim
  | some zs =>
    rw [hz] at p1
    match xs, v1, len, hz with
    | [(k, d)], .cons v1 .nil, _, hz =>
      obtain ⟨n, rfl, hn, rfl⟩ := range_1 hz
      have hs : ((List.range n.toNat).map fun (i : Nat) => D.int (i : Nat)).length ≤ sizeLine := by
        rw [List.length_map, List.length_range, sizeLine_eq]; omega
      exact ⟨n, by rw [v1.intD r1], by omega, by omega, PostI.frz r1 p1 (wk_range fun i => by rw [Int.zero_add]) hs⟩
theorem t_ir2 (hl : lenL a = 2) (h : tI S W T (.ir a) σ H R) : iRng2 (tL S W T a) σ H R := by
  obtain ⟨env, w, μ, G, r, p⟩ := h
  rw [evI] at p
  refine evI_l r p fun xs w1 vs H1 μ1 r1 v1 len p1 => ?_
  rw [hl] at len
  cases hz : rangeD xs with
  | none => rw [hz] at p1; exact p1.elim
  | some zs =>
    rw [hz] at p1
    match xs, v1, len, hz with
    | [(k, d), (k2, d2)], .cons v1 (.cons v2 .nil), _, hz =>
      obtain ⟨n, m, rfl, rfl, hn, rfl⟩ := range_2 hz
      have hs : ((List.range (m - n).toNat).map fun (i : Nat) => D.int (n + (i : Nat))).length ≤ sizeLine := by
        rw [List.length_map, List.length_range, sizeLine_eq]; omega
      exact ⟨n, m, by rw [v1.intD r1, v2.intD r1], ⟨by omega, by omega, by omega, by omega⟩, PostI.frz r1 p1 (wk_range fun i => rfl) hs⟩

/-! ### zip, enumerate -/
theorem VL.flat {k : Kd} {d : D} {v : V} (hk : k = .val ∨ k = .own) (h : VL S σ H env μ G (k, d) v) : Rep S (hide H (BB μ G env σ)) μ d v := by
  rcases hk with rfl | rfl <;> exact h
theorem zip_2 {xs : List (Kd × D)} {zs : List D} (h : zipD xs = some zs) : ∃ k k2 ys ys2, (k = Kd.val ∨ k = .own) ∧ (k2 = Kd.val ∨ k2 = .own) ∧ zs = zip2 ys ys2 ∧ (xs = [(k, .lst ys), (k2, .lst ys2)] ∨ xs = [(k, .tup ys), (k2, .tup ys2)]) := by
  unfold zipD at h
  split at h
  all_goals first
    | (have h := Option.some.inj h; exact ⟨_, _, _, _, by simp, by simp, h.symm, .inl rfl⟩)
    | (have h := Option.some.inj h; exact ⟨_, _, _, _, by simp, by simp, h.symm, .inr rfl⟩)
    | cases h
theorem zip2_get {ys ys2 : List D} {i : Nat} {z : D} (h : (zip2 ys ys2)[i]? = some z) : ∃ a b, z = .tup [a, b] ∧ ys[i]? = some a ∧ ys2[i]? = some b := by
  unfold zip2 at h
  rw [List.getElem?_map, Option.map_eq_some_iff] at h
  obtain ⟨p, h1, h2⟩ := h
  rw [List.getElem?_zip_eq_some] at h1
  exact ⟨p.1, p.2, h2.symm, h1.1, h1.2⟩
theorem walk_zipT {K : PySem.W.Frag} {a b : Addr} {xs ys : List V} {n : Nat} (hn : n = min xs.length ys.length) : Walk (RZ.ItzT K a b) n (fun H => SqT K H a xs ∧ SqT K H b ys) (YPair (fun i => xs[i]?) (fun i => ys[i]?)) where
  goes := fun i H hi q => by
    have h1 : i < xs.length := by omega
    have h2 : i < ys.length := by omega
    exact ⟨xs, ys, xs[i], ys[i], q.1, q.2, by simp [h1], by simp [h2]⟩
  stops := fun H q => ⟨xs, ys, q.1, q.2, by omega⟩
  yields := fun i H v H' _ q ⟨T, x, z, h1, h2, h3, h4, h5⟩ => ⟨T, x, z, h1, h2, h3, h4 xs q.1, h5 ys q.2⟩
theorem t_iz (h : tI S W T (.iz a) σ H R) : RZ.iZipA S.K (tL S W T a) σ H fun J H1 => Bd S.K H1 → R J H1 := by
  obtain ⟨env, w, μ, G, r, p⟩ := h
  rw [evI] at p
  refine evI_l r p fun xs w1 vs H1 μ1 r1 v1 len p1 => ?_
  cases hz : zipD xs with
  | none => rw [hz] at p1; exact p1.elim
  | some zs =>
    rw [hz] at p1
    obtain ⟨k, k2, ys, ys2, hk, hk2, rfl, e⟩ := zip_2 hz
    have items : ∀ {us us2 : List V}, Reps S (hide H1 (BB μ1 G env σ)) μ1 ys us → Reps S (hide H1 (BB μ1 G env σ)) μ1 ys2 us2 → ∀ (i : Nat) (z : D) (x y : V), (zip2 ys ys2)[i]? = some z → us[i]? = some x → us2[i]? = some y → ∃ a b, z = .tup [a, b] ∧ Rep S (hide H1 (BB μ1 G env σ)) μ1 a x ∧ Rep S (hide H1 (BB μ1 G env σ)) μ1 b y := by
      intro us us2 g1 g2 i z x y h1 h2 h3
      obtain ⟨a, b, rfl, h4, h5⟩ := zip2_get h1
      obtain ⟨a', h6, h7⟩ := g1.getV h2
      obtain ⟨b', h8, h9⟩ := g2.getV h3
      rw [h4] at h6
      rw [h5] at h8
      cases h6
      cases h8
      exact ⟨a, b, rfl, h7, h9⟩
    rcases e with rfl | rfl
    · match v1 with
      | .cons v1 (.cons v2 .nil) =>
        have g1 := v1.flat hk
        have g2 := v2.flat hk2
        simp only [Rep] at g1 g2
        obtain ⟨a1, us, rfl, q1, q2⟩ := g1
        obtain ⟨a2, us2, rfl, q3, q4⟩ := g2
        have s1 := Same.sqL (hide_same _ _) q1
        have s2 := Same.sqL (hide_same _ _) q3
        have hl : (zip2 ys ys2).length = min us.length us2.length := by rw [zip2, List.length_map, List.length_zip, q2.length, q4.length]
        refine ⟨a1, a2, us, us2, rfl, .inl ⟨s1, s2, fun bd => PostI.frz r1 p1 (wk_pair (walk_zip rfl) (fun H2 e => ⟨Same.sqL e q1, Same.sqL e q3⟩) _ hl (items q2 q4)) ?_⟩⟩
        have := bd a1 us (.inl s1)
        omega
    · match v1 with
      | .cons v1 (.cons v2 .nil) =>
        have g1 := v1.flat hk
        have g2 := v2.flat hk2
        simp only [Rep] at g1 g2
        obtain ⟨a1, us, rfl, q1, q2⟩ := g1
        obtain ⟨a2, us2, rfl, q3, q4⟩ := g2
        have s1 := Same.sqT (hide_same _ _) q1
        have s2 := Same.sqT (hide_same _ _) q3
        have hl : (zip2 ys ys2).length = min us.length us2.length := by rw [zip2, List.length_map, List.length_zip, q2.length, q4.length]
        refine ⟨a1, a2, us, us2, rfl, .inr ⟨s1, s2, fun bd => PostI.frz r1 p1 (wk_pair (walk_zipT rfl) (fun H2 e => ⟨Same.sqT e q1, Same.sqT e q3⟩) _ hl (items q2 q4)) ?_⟩⟩
        have := bd a1 us (.inr s1)
        omega
end
end R
end
section
set_option Elab.async false
set_option linter.all false
set_option maxRecDepth 100000
/-! RC6: list comprehensions by the evaluator. -/
namespace R
open PySem PySem.Spec PyProof.Rows L2
/-- nothing is raised -/
abbrev WF : WX := fun _ _ _ _ => False
section
variable {S : St0} {W : WX} {T : Tab} {σ σ' : L2.St} {H H' H1 : Hp} {env env' : En} {w w' w1 : Wd} {μ μ' μ1 : List Addr} {G G' G1 : Addr → Prop} {Q Q' : VK} {a b c : CE} {R : It → Hp → Prop}
theorem hide_upd {H : Hp} {B : Addr → Prop} {p : Addr} {o : HO} (h : B p) : hide (upd H p o) B = hide H B := by
  funext b
  unfold hide
  by_cases e : B b
  · rw [if_pos e, if_pos e]
  · rw [if_neg e, if_neg e, upd_ne (by rintro rfl; exact e h)]
theorem WRel.updB {B : Addr → Prop} {p : Addr} {o : HO} (h : WRel S H μ w B) (hp : B p) : WRel S (upd H p o) μ w B :=
  ⟨h.len, h.nd, fun n a d h1 h2 => by
    have hc := h.cont n a d h1 h2
    have e : hide (upd H p o) (fun b => b ∈ μ ∨ B b) = hide H (fun b => b ∈ μ ∨ B b) := hide_upd (.inr hp)
    rw [e]
    refine hc.mono (fun _ _ z => z) (Pre.refl _) fun u q => ?_
    rw [upd_ne (by rintro rfl; exact h.dis _ (List.mem_of_getElem? h1) hp)]
    exact q, h.dis, fun b z => by
    by_cases e : b = p
    · rw [e, upd_same]; simp
    · rw [upd_ne e]; exact h.gd b z⟩
theorem Ext.updN {p : Addr} {o : HO} (e : Ext H μ H' μ') (hp : H p = none) (hc : ∀ b, b ∈ μ → H b ≠ none) : Ext H μ (upd H' p o) μ' :=
  ⟨fun b u h hb => by rw [upd_ne (ne_of_none h hp)]; exact e.keep b u h hb, fun b hb => by
    rw [upd_ne (by rintro rfl; exact hc _ hb hp)]; exact e.cel b hb, e.new⟩
theorem own_eq {env env' : En} {σ σ' : L2.St} (h : ∀ a, ownAt env' σ' a ↔ ownAt env σ a) : ownAt env' σ' = ownAt env σ := funext fun a => propext (h a)
/-- slots that hold nothing of their own are set, or forgotten -/
theorem own_set_iff {i : Nat} {x : Sl} {y : Option V} (hx : ∀ d, x ≠ .own d) (he : ∀ d, env[i]? ≠ some (Sl.own d)) (a : Addr) : ownAt (env.set i x) (σ.set i y) a ↔ ownAt env σ a :=
  ⟨own_set hx a, fun ⟨j, d, h1, h2⟩ => by
    have ne : j ≠ i := fun z => he d (z ▸ h1)
    exact ⟨j, d, by rw [List.getElem?_set_ne (fun z => ne z.symm)]; exact h1, by rw [St.set_ne ne]; exact h2⟩⟩
theorem wipeE_get {v j : Nat} : ∀ {vs : List Nat}, ∀ d, (wipeE env vs)[j]? = some (Sl.own d) → env[j]? = some (Sl.own d) := fun {vs} => by
  induction vs with
  | nil => intro d h; exact h
  | cons x vs ih =>
    intro d h
    rcases En.set_get h with ⟨_, q⟩ | ⟨_, q⟩
    · cases q
    · exact ih d q
theorem own_wipe : ∀ {vs : List Nat}, noOwn env vs = true → ∀ a, ownAt (wipeE env vs) (L2.wipe σ vs) a ↔ ownAt env σ a
  | [], _, a => Iff.rfl
  | v :: vs, h, a => by
    simp only [noOwn, List.all_cons, Bool.and_eq_true] at h
    refine (own_set_iff (fun d z => by cases z) fun d z => ?_) a |>.trans (own_wipe (vs := vs) (by simpa [noOwn] using h.2) a)
    have := wipeE_get (v := v) d z
    rw [this] at h
    cases h.1
theorem noOwn_at {vs : List Nat} (h : noOwn env vs = true) {i : Nat} (hi : i ∈ vs) : ∀ d, env[i]? ≠ some (Sl.own d) := fun d z => by
  have := List.all_eq_true.mp h i hi
  rw [z] at this
  cases this
theorem wipe_at : ∀ {vs : List Nat} {i : Nat}, i ∈ vs → ∀ d, (wipeE env vs)[i]? ≠ some (Sl.own d)
  | [], i, h, d, _ => by simp at h
  | v :: vs, i, h, d, z => by
    rcases En.set_get z with ⟨_, q⟩ | ⟨ne, q⟩
    · cases q
    · rcases List.mem_cons.mp h with e | e
      · exact ne e
      · exact wipe_at e d q
/-- binding a target leaves the slots' own lists -/
theorem setMany_own : ∀ {is : List Nat} {ds : List D} {us : List V} {env env' : En} {σ : L2.St}, setMany is ds env = some env' → us.length = is.length → (∀ i ∈ is, ∀ d, env[i]? ≠ some (Sl.own d)) → ∀ a, ownAt env' (setAll σ is us) a ↔ ownAt env σ a
  | [], [], us, env, env', σ, e, _, _, a => by cases e; simp [setAll]
  | [], _ :: _, us, env, env', σ, e, _, _, a => by cases e
  | _ :: _, [], us, env, env', σ, e, _, _, a => by cases e
  | _ :: _, _ :: _, [], env, env', σ, e, h, _, a => by cases h
  | i :: is, d :: ds, u :: us, env, env', σ, e, h, hn, a => by
    have e2 : setMany is ds (env.set i (.val d)) = some env' := e
    refine (setMany_own (σ := σ.set i (some u)) e2 (by simpa using h) (fun j hj d' z => ?_) a).trans (own_set_iff (fun d z => by cases z) (hn i List.mem_cons_self) a)
    rcases En.set_get z with ⟨_, q⟩ | ⟨_, q⟩
    · cases q
    · exact hn j (List.mem_cons_of_mem _ hj) d' q
theorem bind_own {tg : Tg} {d : D} {us : List V} (e : bindTg tg d env = some env') (hu : us.length = (tgIs tg).length) (hn : ∀ i ∈ tgIs tg, ∀ d, env[i]? ≠ some (Sl.own d)) : ∀ a, ownAt env' (setAll σ (tgIs tg) us) a ↔ ownAt env σ a := fun a => by
  cases tg with
  | one i =>
    simp only [bindTg, set1, Option.some.injEq] at e
    subst e
    match us, hu with
    | [u], _ => exact own_set_iff (fun d z => by cases z) (hn i (by simp [tgIs])) a
  | many is =>
    cases d with
    | tup ds => exact setMany_own e hu hn a
    | _ => cases e
/-- the state of a block's turn told for the frame around it -/
theorem Rel.around (r0 : Rel S σ H env w μ G) (e : Ext H μ H' μ') (r : WRel S H' μ' w' (GO G' env' σ')) (ho : ∀ a, ownAt env' σ' a ↔ ownAt env σ a) (hn : ∀ b, G' b → G b ∨ H b = none) : Rel S σ H' env w' μ' G' :=
  r0.extG e (r.mono fun b z => z.imp_right fun q => (ho b).mpr q) hn

/-- a comprehension's turn -/
def lcTurn (T : Tab) (vs : List Nat) (tg : Tg) (c e : CE) (env : En) (x : D) (w2 : Wd) : M (Option D) :=
  match bindTg tg x (wipeE env vs) with
  | some env' => bnd (evE T c env' w2) fun b w3 => match b with
    | (_, .bl true) => bnd (evE T e env' w3) fun y w4 => lift ((keepOk y).map some) w4
    | (_, .bl false) => ret none w3
    | _ => none
  | none => none
theorem lcLoop_cons {f : D → Wd → M (Option D)} {x : D} {xs : List D} {ys : List D} (h : lcLoop f (x :: xs) w = some (.ok ys w')) :
    ∃ r w1 rest, f x w = some (.ok r w1) ∧ lcLoop f xs w1 = some (.ok rest w') ∧ ys = (match r with | some d => d :: rest | none => rest) := by
  simp only [lcLoop] at h
  cases h1 : f x w with
  | none => rw [h1] at h; cases h
  | some y => cases y with
    | exc _ _ _ => rw [h1] at h; cases h
    | ok r w1 =>
      rw [h1] at h
      dsimp only at h
      cases h2 : lcLoop f xs w1 with
      | none => rw [h2] at h; cases h
      | some z => cases z with
        | exc _ _ _ => rw [h2] at h; cases h
        | ok rest w2 =>
          rw [h2] at h
          simp only [ret, Option.some.injEq, Res.ok.injEq] at h
          exact ⟨r, w1, rest, rfl, h.2 ▸ h2, h.1.symm⟩
theorem lcLoop_ok {f : D → Wd → M (Option D)} : ∀ {xs : List D} {w : Wd}, lcLoop f xs w ≠ none → ∃ ys w', lcLoop f xs w = some (.ok ys w')
  | [], w, _ => ⟨[], w, rfl⟩
  | x :: xs, w, h => by
    simp only [lcLoop] at h ⊢
    cases h1 : f x w with
    | none => rw [h1] at h; exact absurd rfl h
    | some y => cases y with
      | exc _ _ _ => rw [h1] at h; exact absurd rfl h
      | ok r w1 =>
        rw [h1] at h
        dsimp only at h ⊢
        cases h2 : lcLoop f xs w1 with
        | none => rw [h2] at h; exact absurd rfl h
        | some z => cases z with
          | exc _ _ _ => rw [h2] at h; exact absurd rfl h
          | ok rest w2 => exact ⟨_, _, rfl⟩
/-- the tests' reading -/
def tTs (S : St0) (T : Tab) (c : CE) : Bool → TT
  | true => tT S WF T c
  | false => tYes
/-- the turns, the new list begun anywhere -/
theorem lc_itG {J : It} {n : Nat} {Gw : Hp → Prop} {Y : Nat → Hp → V → Hp → Prop} (w : Walk J n Gw Y) {g : TG} {tt : TT} {te : TE} {vs : List Nat} {σ : L2.St} {H0 : Hp} {D : Addr} {Qd : Hp → Prop} (Pv : Nat → Hp → Prop) (h0 : Pv 0 H0) (hG : ∀ i H, i ≤ n → Pv i H → Gw H)
    (hs : ∀ i x H H', i < n → Pv i H → Y i H x H' → g x (L2.wipe σ vs) H' fun σ2 H2 => L2.wipe σ2 vs = L2.wipe σ vs ∧ tt σ2 H2 fun b H3 =>
      if b = true then te σ2 H3 fun y H4 => ∃ acc, H4 D = some (.lst acc) ∧ acc.length < sizeLine ∧ Pv (i + 1) (upd H4 D (.lst (acc ++ [y]))) else Pv (i + 1) H3) (hd : ∀ H, Pv n H → Qd H) :
    ∃ W : Nat → Nat → Hp → Prop, (∃ m, W 0 m H0) ∧ ∀ i m H, W i m H →
      (J.stop i H ∧ Qd H) ∨ (J.go i H ∧ ∃ Nx : Hp → Prop, (∀ H', Nx H' → ∃ m', m' < m ∧ W (i + 1) m' H') ∧ ∀ x H', J.yld i H x H' → g x (L2.wipe σ vs) H' fun σ2 H2 => L2.wipe σ2 vs = L2.wipe σ vs ∧ tt σ2 H2 fun b H3 =>
        if b = true then te σ2 H3 fun y H4 => ∃ acc, H4 D = some (.lst acc) ∧ acc.length < sizeLine ∧ Nx (upd H4 D (.lst (acc ++ [y]))) else Nx H3) := by
  refine ⟨fun i m H => m = n - i ∧ i ≤ n ∧ Pv i H, ⟨n, by simp, Nat.zero_le _, h0⟩, ?_⟩
  rintro i m H ⟨rfl, hi, p⟩
  have q := hG i H hi p
  by_cases hlt : i < n
  · refine .inr ⟨w.goes i H hlt q, Pv (i + 1), fun H' p' => ⟨n - (i + 1), by omega, rfl, hlt, p'⟩, fun x H' y => hs i x H H' hlt p (w.yields i H x H' hlt q y)⟩
  · have e : i = n := by omega
    subst e
    exact .inl ⟨w.stops H q, hd H p⟩
theorem lcLoop_len {f : D → Wd → M (Option D)} : ∀ {xs ys : List D} {w w' : Wd}, lcLoop f xs w = some (.ok ys w') → ys.length ≤ xs.length
  | [], ys, w, w', h => by simp only [lcLoop, ret, Option.some.injEq, Res.ok.injEq] at h; obtain ⟨rfl, _⟩ := h; simp
  | x :: xs, ys, w, w', h => by
    obtain ⟨r, w1, rest, _, h2, rfl⟩ := lcLoop_cons h
    have := lcLoop_len h2
    cases r <;> simp <;> omega
theorem lc_run {vs : List Nat} {tg : Tg} {e : CE} {tst : Bool} {J : It} {xs ys accD0 : List D} {accV0 : List V} {Ks : Hp} {we : Wd} {D : Addr} {Qd : Hp → Prop} (no : noOwn env vs = true) (hv : ∀ i ∈ tgIs tg, i ∈ vs) (hc : tst = false → c = .bl true)
    (r1 : Rel S σ H1 env w1 μ1 G) (hD : H1 D = none) (a0 : Reps S (hide H1 (BB μ1 G env σ)) μ1 accD0 accV0) (wk : WK S J xs Ks (hide H1 (BB μ1 G env σ)) μ1) (hk : ∀ b o, Ks b = some o → H1 b = some o ∧ b ∉ μ1) (hz : accD0.length + ys.length ≤ sizeLine)
    (hy : lcLoop (lcTurn T vs tg c e env) xs w1 = some (.ok ys we))
    (fin : ∀ H2 μ2 accV, Ext H1 μ1 H2 μ2 → Rel S σ H2 env we μ2 (gk G Kd.own (V.ref D)) → H2 D = some (.lst accV) → Reps S (hide H2 (BB μ2 (gk G Kd.own (V.ref D)) env σ)) μ2 (accD0 ++ ys) accV → Qd H2) :
    ∃ W : Nat → Nat → Hp → Prop, (∃ m, W 0 m (upd H1 D (.lst accV0))) ∧ ∀ i m H, W i m H →
      (J.stop i H ∧ Qd H) ∨ (J.go i H ∧ ∃ Nx : Hp → Prop, (∀ H', Nx H' → ∃ m', m' < m ∧ W (i + 1) m' H') ∧ ∀ x H', J.yld i H x H' → gD S.K tg x (L2.wipe σ vs) H' fun σ2 H2 => L2.wipe σ2 vs = L2.wipe σ vs ∧ tTs S T c tst σ2 H2 fun b H3 =>
        if b = true then tE S WF T e σ2 H3 fun y H4 => ∃ acc, H4 D = some (.lst acc) ∧ acc.length < sizeLine ∧ Nx (upd H4 D (.lst (acc ++ [y]))) else Nx H3) := by
  have hDG : ∀ b, gk G Kd.own (V.ref D) b ↔ G b ∨ b = D := fun b => ⟨fun z => z.imp_right fun y => by injection y.2 with e; exact e.symm, fun z => z.imp_right fun y => ⟨rfl, by rw [y]⟩⟩
  have hn : ∀ b, gk G Kd.own (V.ref D) b → G b ∨ H1 b = none := fun b z => ((hDG b).mp z).imp_right fun y => by rw [y]; exact hD
  have gD' : gk G Kd.own (V.ref D) D := .inr ⟨rfl, rfl⟩
  have dmu : ∀ b, b ∈ μ1 → H1 b ≠ none := r1.wr.cellD
  refine lc_itG wk (fun i H2 => ∃ w2 μ2 accD accV rest, Ext H1 μ1 H2 μ2 ∧ Rel S σ H2 env w2 μ2 (gk G Kd.own (V.ref D)) ∧ H2 D = some (.lst accV) ∧ Reps S (hide H2 (BB μ2 (gk G Kd.own (V.ref D)) env σ)) μ2 accD accV ∧
    lcLoop (lcTurn T vs tg c e env) (xs.drop i) w2 = some (.ok rest we) ∧ accD ++ rest = accD0 ++ ys) ?_ ?_ ?_ ?_
  · -- the start
    have ex : Ext H1 μ1 (upd H1 D (.lst accV0)) μ1 := r1.ext0 (same_new hD)
    refine ⟨w1, μ1, accD0, accV0, ys, ex, r1.growG (same_new hD) (fun b z => ((hDG b).mp z).imp_right fun y => by subst y; exact ⟨hD, by rw [upd_same]; simp⟩), upd_same, ?_, by simpa using hy, rfl⟩
    exact Reps.mono (r1.frozenG ex hn) (Pre.refl _) _ _ a0
  · -- what is walked stands
    rintro i H2 _ ⟨w2, μ2, accD, accV, rest, ex, _⟩ b o hb
    obtain ⟨q1, q2⟩ := hk b o hb
    exact ex.keep b o q1 q2
  · -- a turn
    rintro i x H2 H3 hi ⟨w2, μ2, accD, accV, rest, ex2, r2, hD2, acc2, loop, eq⟩ ⟨s23, item⟩
    rw [List.drop_eq_getElem_cons hi] at loop
    obtain ⟨rr, w3, rest', ht, loop', er⟩ := lcLoop_cons loop
    have e23 : Ext H2 μ2 H3 μ2 := r2.ext0 s23
    have r3 : Rel S σ H3 env w2 μ2 (gk G Kd.own (V.ref D)) := r2.grow s23
    have ex3 : Ext H1 μ1 H3 μ2 := ex2.trans e23
    have fz : Same (hide H1 (BB μ1 G env σ)) (hide H2 (BB μ2 (gk G Kd.own (V.ref D)) env σ)) := r1.frozenG ex2 hn
    have ri : Rep S (hide H3 (BB μ2 (gk G Kd.own (V.ref D)) env σ)) μ2 xs[i] x := by
      have q := item xs[i] (by simp [hi]) _ fz (hide_same _ _)
      refine Rep.mono (fun b o z => ?_) ex2.pre _ _ q
      unfold grow at z
      cases y : H2 b with
      | none => rw [y] at z; exact hide_of z fun t => r2.nd t y
      | some u =>
        rw [y] at z
        obtain ⟨z1, z2⟩ := of_hide z
        exact hide_of (s23 b o z1) z2
    have own0 := own_wipe (σ := σ) no
    have rw3 : Rel S (L2.wipe σ vs) H3 (wipeE env vs) w2 μ2 (gk G Kd.own (V.ref D)) := r3.wipe vs
    unfold lcTurn at ht
    cases hb : bindTg tg xs[i] (wipeE env vs) with
    | none => rw [hb] at ht; cases ht
    | some env2 =>
      rw [hb] at ht
      dsimp only at ht
      have rib : Rep S (hide H3 (BB μ2 (gk G Kd.own (V.ref D)) (wipeE env vs) (L2.wipe σ vs))) μ2 xs[i] x := by
        rw [show BB μ2 (gk G Kd.own (V.ref D)) (wipeE env vs) (L2.wipe σ vs) = BB μ2 (gk G Kd.own (V.ref D)) env σ from by unfold BB GO; rw [own_eq own0]]
        exact ri
      refine g_bind rw3 rib hb fun us hu r4 => ?_
      have own1 : ∀ a, ownAt env2 (setAll (L2.wipe σ vs) (tgIs tg) us) a ↔ ownAt env σ a := fun a => (bind_own hb hu (fun i hi => wipe_at (hv i hi)) a).trans (own0 a)
      have bbe : ∀ μ, BB μ (gk G Kd.own (V.ref D)) env2 (setAll (L2.wipe σ vs) (tgIs tg) us) = BB μ (gk G Kd.own (V.ref D)) env σ := fun μ => by unfold BB GO; rw [own_eq own1]
      refine ⟨by rw [wipe_setAll hv, wipe_wipe], ?_⟩
      -- behind a part
      have back : ∀ {H4 μ4 w4}, Ext H3 μ2 H4 μ4 → Rel S (setAll (L2.wipe σ vs) (tgIs tg) us) H4 env2 w4 μ4 (gk G Kd.own (V.ref D)) →
          Ext H1 μ1 H4 μ4 ∧ Rel S σ H4 env w4 μ4 (gk G Kd.own (V.ref D)) ∧ H4 D = some (.lst accV) ∧ Reps S (hide H4 (BB μ4 (gk G Kd.own (V.ref D)) env σ)) μ4 accD accV := fun {H4 μ4 w4} e34 r5 => by
        refine ⟨ex3.trans e34, r1.around (ex3.trans e34) r5.wr own1 hn, e34.keep D _ (s23 D _ hD2) fun z => r2.wr.dis D z (.inl gD'), ?_⟩
        exact Reps.mono (r2.frozenG (e23.trans e34) fun b z => .inl z) (e23.trans e34).pre _ _ acc2
      have no4 : ∀ {H4 μ4}, Ext H3 μ2 H4 μ4 → Rel S (setAll (L2.wipe σ vs) (tgIs tg) us) H4 env2 w3 μ4 (gk G Kd.own (V.ref D)) → rr = none →
          ∃ w2 μ2 accD accV rest, Ext H1 μ1 H4 μ2 ∧ Rel S σ H4 env w2 μ2 (gk G Kd.own (V.ref D)) ∧ H4 D = some (.lst accV) ∧ Reps S (hide H4 (BB μ2 (gk G Kd.own (V.ref D)) env σ)) μ2 accD accV ∧
            lcLoop (lcTurn T vs tg c e env) (xs.drop (i + 1)) w2 = some (.ok rest we) ∧ accD ++ rest = accD0 ++ ys := fun {H4 μ4} e34 r5 hr => by
        obtain ⟨b1, b2, b3, b4⟩ := back e34 r5
        subst hr
        dsimp only at er
        exact ⟨w3, μ4, accD, accV, rest', b1, b2, b3, b4, loop', by rw [← er]; exact eq⟩
      have yes4 : ∀ {H4 μ4 d v}, Ext H3 μ2 H4 μ4 → Rel S (setAll (L2.wipe σ vs) (tgIs tg) us) H4 env2 w3 μ4 (gk G Kd.own (V.ref D)) → rr = some d → Rep S (hide H4 (BB μ4 (gk G Kd.own (V.ref D)) env σ)) μ4 d v →
          ∃ acc, H4 D = some (.lst acc) ∧ acc.length < sizeLine ∧ ∃ w2 μ2 accD accV rest, Ext H1 μ1 (upd H4 D (.lst (acc ++ [v]))) μ2 ∧ Rel S σ (upd H4 D (.lst (acc ++ [v]))) env w2 μ2 (gk G Kd.own (V.ref D)) ∧ upd H4 D (.lst (acc ++ [v])) D = some (.lst accV) ∧ Reps S (hide (upd H4 D (.lst (acc ++ [v]))) (BB μ2 (gk G Kd.own (V.ref D)) env σ)) μ2 accD accV ∧
            lcLoop (lcTurn T vs tg c e env) (xs.drop (i + 1)) w2 = some (.ok rest we) ∧ accD ++ rest = accD0 ++ ys := fun {H4 μ4 d v} e34 r5 hr rd => by
        obtain ⟨b1, b2, b3, b4⟩ := back e34 r5
        subst hr
        dsimp only at er
        have ex5 := b1.updN (o := .lst (accV ++ [v])) hD dmu
        have hlen : accD.length < sizeLine := by
          have q := congrArg List.length eq
          rw [er] at q
          simp only [List.length_append, List.length_cons] at q
          omega
        refine ⟨accV, b3, by rw [b4.length]; exact hlen, w3, μ4, accD ++ [d], accV ++ [v], rest', ex5, r1.extG ex5 (b2.wr.updB (.inl gD')) hn, upd_same, ?_, loop', by rw [List.append_assoc, List.singleton_append, ← er]; exact eq⟩
        rw [hide_upd (show BB μ4 (gk G Kd.own (V.ref D)) env σ D from .inr (.inl gD'))]
        exact b4.append (Reps.cons rd Reps.nil)
      -- the item
      have elem : ∀ {H4 μ4 w4} , Ext H3 μ2 H4 μ4 → Rel S (setAll (L2.wipe σ vs) (tgIs tg) us) H4 env2 w4 μ4 (gk G Kd.own (V.ref D)) → bnd (evE T e env2 w4) (fun y w4 => lift ((keepOk y).map some) w4) = some (.ok rr w3) →
          tE S WF T e (setAll (L2.wipe σ vs) (tgIs tg) us) H4 fun y H5 => ∃ acc, H5 D = some (.lst acc) ∧ acc.length < sizeLine ∧ ∃ w2 μ2 accD accV rest, Ext H1 μ1 (upd H5 D (.lst (acc ++ [y]))) μ2 ∧ Rel S σ (upd H5 D (.lst (acc ++ [y]))) env w2 μ2 (gk G Kd.own (V.ref D)) ∧ upd H5 D (.lst (acc ++ [y])) D = some (.lst accV) ∧ Reps S (hide (upd H5 D (.lst (acc ++ [y]))) (BB μ2 (gk G Kd.own (V.ref D)) env σ)) μ2 accD accV ∧
            lcLoop (lcTurn T vs tg c e env) (xs.drop (i + 1)) w2 = some (.ok rest we) ∧ accD ++ rest = accD0 ++ ys := fun {H4 μ4 w4} e34 r5 hb => by
        obtain ⟨y, w5, hy1, hy2⟩ := bnd_ok hb
        cases hko : keepOk y with
        | none => rw [hko] at hy2; cases hy2
        | some d =>
          rw [hko] at hy2
          simp only [lift, Option.map_some, Option.some.injEq, Res.ok.injEq] at hy2
          obtain ⟨rfl, rfl⟩ := hy2
          refine ⟨env2, w4, μ4, _, r5, ?_⟩
          rw [hy1]
          intro v H5 μ5 e5 r6 vr6 f6
          obtain ⟨rfl, rp⟩ := vr6.keep (fun a h1 h2 z => r5.wr.gd a (.inl z) (f6 a h1 h2)) r6 hko
          rw [bbe] at rp
          exact yes4 (e34.trans e5) (r6.mono gk_le) rfl rp
      cases tst with
      | false =>
        have := hc rfl
        subst this
        rw [evE] at ht
        exact elem (.of_same (fun _ _ z => z) r3.wr.cellD) r4 ht
      | true =>
        obtain ⟨b, w4, hb1, hb2⟩ := bnd_ok ht
        refine ⟨env2, w2, μ2, _, r4, ?_⟩
        rw [hb1]
        intro v H4 μ4 e4 r5 vr5 f5
        obtain ⟨k, bd⟩ := b
        cases bd with
        | bl bb =>
          refine ⟨bb, vr5.blD r5, ?_⟩
          cases bb with
          | true => exact elem e4 (r5.mono gk_le) hb2
          | false =>
            simp only [ret, Option.some.injEq, Res.ok.injEq] at hb2
            obtain ⟨rfl, rfl⟩ := hb2
            exact no4 e4 (r5.mono gk_le) rfl
        | _ => cases hb2
  · -- the end
    rintro H2 ⟨w2, μ2, accD, accV, rest, ex, r2, hD2, acc2, loop, eq⟩
    rw [List.drop_length] at loop
    simp only [lcLoop, ret, Option.some.injEq, Res.ok.injEq] at loop
    obtain ⟨rfl, rfl⟩ := loop
    rw [List.append_nil] at eq
    subst eq
    exact fin H2 μ2 accV ex r2 hD2 acc2
theorem t_lc {vs : List Nat} {tg : Tg} {it e : CE} {tst : Bool} (hv : ∀ i ∈ tgIs tg, i ∈ vs) (hc : tst = false → c = .bl true) (h : tE S W T (.lc vs tg it c e) σ H Q) :
    tLc (fun σ H R => tI S W T it σ H R) (gD S.K tg) (tTs S T c tst) (tE S WF T e) vs σ H Q := by
  obtain ⟨env, w, μ, G, r, p⟩ := h
  rw [evE] at p
  by_cases no : noOwn env vs = true
  · rw [if_pos no] at p
    have p : PostE S W σ H env μ G Q (bnd (evI T it env w) fun xs w1 => bnd (lcLoop (lcTurn T vs tg c e env) xs w1) fun ys w2 => ret (.own, .lst ys) w2) := p
    refine ⟨env, w, μ, G, r, ?_⟩
    cases hx : evI T it env w with
    | none => rw [hx] at p; exact p
    | some x => cases x with
      | exc c q w' => rw [hx] at p; exact p
      | ok xs w1 =>
        rw [hx] at p
        intro J H1 μ1 Ks e1 r1 wk hk hz D hD
        replace p := PostE.back r e1 (fun _ z => z) p
        replace p : PostE S W σ H1 env μ1 G Q (bnd (lcLoop (lcTurn T vs tg c e env) xs w1) fun ys w2 => ret (.own, .lst ys) w2) := p
        have hl : lcLoop (lcTurn T vs tg c e env) xs w1 ≠ none := fun z => by rw [z] at p; exact p.elim
        obtain ⟨ys, we, hy⟩ := lcLoop_ok hl
        rw [hy] at p
        replace p : PostE S W σ H1 env μ1 G Q (ret (.own, .lst ys) we) := p
        have lz := lcLoop_len hy
        refine lc_run no hv hc r1 hD Reps.nil wk (fun b o q => ⟨(hk b o q).1, (hk b o q).2.1⟩) (by simp; omega) hy fun H2 μ2 accV ex r2 hD2 acc2 => ?_
        exact p _ H2 μ2 ex r2 ⟨D, rfl, .inr ⟨rfl, rfl⟩, fun z => r1.ownD z hD, accV, hD2, acc2⟩ fun a _ z => by
            have e : D = a := by injection z
            rw [← e]; exact hD
  · rw [if_neg no] at p
    exact p.elim
end
end R
end
section
set_option Elab.async false
set_option linter.all false
set_option maxRecDepth 100000
/-! RC7: readings of statements by the evaluator. -/
namespace R
open PySem PySem.Spec PyProof.Rows L2

/-- what stays as it is -/
structure FZ where
  h : Hp
  m : List Addr
/-- a def's run: H0, μ0 at its entry; Fz: what stays as it is -/
structure SR (S : St0) (H0 : Hp) (μ0 : List Addr) (Fz : FZ) (G : Addr → Prop) (σ : L2.St) (H : Hp) (env : En) (w : Wd) (μ : List Addr) : Prop where
  rel : Rel S σ H env w μ G
  kp : ∀ b o, Fz.h b = some o → H b = some o ∧ b ∉ μ ∧ ¬ ownAt env σ b
  fz0 : ∀ b o, H0 b = some o → b ∉ μ0 → Fz.h b = some o
  mu : ∃ τ, μ = μ0 ++ τ ∧ ∀ a, a ∈ τ → H0 a = none
  own : ∀ a, ownAt env σ a → H0 a = none
  pz : Pre Fz.m μ
def PostS (S : St0) (W : WX) (H0 : Hp) (μ0 : List Addr) (G : Addr → Prop) (Fz : FZ) (Z : Ends) : Option Out → Prop
  | some (.next env' w') => ∀ σ' H' μ', SR S H0 μ0 Fz G σ' H' env' w' μ' → Z.nx σ' H'
  | some (.brk env' w') => ∀ σ' H' μ', SR S H0 μ0 Fz G σ' H' env' w' μ' → Z.bk σ' H'
  | some (.cnt env' w') => ∀ σ' H' μ', SR S H0 μ0 Fz G σ' H' env' w' μ' → Z.ct σ' H'
  | some (.ret .val d w') => ∀ v H' μ', Ext H0 μ0 H' μ' → WRel S H' μ' w' G → Rep S (hide H' fun b => b ∈ μ' ∨ G b) μ' d v → Z.rt v H'
  | some (.ret .own d w') => ∀ a H' μ', Ext H0 μ0 H' μ' → H0 a = none → WRel S H' μ' w' (fun b => G b ∨ b = a) → Cont S (hide H' fun b => b ∈ μ' ∨ G b ∨ b = a) μ' H' a d → Z.rt (.ref a) H'
  | some (.exc c p w') => ∀ dx σ' H' μ', Ext H0 μ0 H' μ' → WRel S H' μ' w' G → ExcR S (hide H' fun b => b ∈ μ' ∨ G b) μ' p dx H' → W (S.exv c) dx σ' H'
  | _ => False
def tS (S : St0) (W : WX) (T : Tab) (H0 : Hp) (μ0 : List Addr) (G : Addr → Prop) (c : CS) : TS := fun Z σ H => ∃ Fz env w μ, SR S H0 μ0 Fz G σ H env w μ ∧ PostS S W H0 μ0 G Fz Z (evS T c env w)

section
variable {S : St0} {W : WX} {T : Tab} {H0 : Hp} {μ0 : List Addr} {Fz : FZ} {Z : Ends} {σ σ' : L2.St} {H H' H1 : Hp} {env env' : En} {w w' w1 : Wd} {μ μ' μ1 : List Addr} {G G' G1 : Addr → Prop} {Q Q' : VK} {a b c : CE} {R : It → Hp → Prop} {x y : CS}
theorem SR.cel (r : SR S H0 μ0 Fz G σ H env w μ) : ∀ b, b ∈ μ0 → H b ≠ none := fun b hb => r.rel.wr.cellD b (by
  obtain ⟨τ, e, _⟩ := r.mu
  rw [e]; exact List.mem_append_left _ hb)
theorem SR.ext0 (r : SR S H0 μ0 Fz G σ H env w μ) : Ext H0 μ0 H μ :=
  ⟨fun b o h hb => (r.kp b o (r.fz0 b o h hb)).1, r.cel, r.mu⟩
theorem SR.none0 (r : SR S H0 μ0 Fz G σ H env w μ) {b : Addr} (h : H b = none) : H0 b = none := r.ext0.dom h
theorem SR.ext (r : SR S H0 μ0 Fz G σ H env w μ) (e : Ext H μ H1 μ1) (r1 : Rel S σ H1 env w1 μ1 G) : SR S H0 μ0 Fz G σ H1 env w1 μ1 :=
  ⟨r1, fun b o h => by
    obtain ⟨h1, h2, h3⟩ := r.kp b o h
    exact ⟨e.keep b o h1 h2, e.mem h1 h2, h3⟩, r.fz0, (r.ext0.trans e).new, r.own, r.pz.trans e.pre⟩
/-- other slots, the heap as it was -/
theorem SR.slots (r : SR S H0 μ0 Fz G σ H env w μ) (r1 : Rel S σ' H env' w μ G) (ho : ∀ a, ownAt env' σ' a → ownAt env σ a) : SR S H0 μ0 Fz G σ' H env' w μ :=
  ⟨r1, fun b o h => by
    obtain ⟨h1, h2, h3⟩ := r.kp b o h
    exact ⟨h1, h2, fun z => h3 (ho b z)⟩, r.fz0, r.mu, fun a z => r.own a (ho a z), r.pz⟩
theorem SR.setV {i : Nat} {d : D} {v : V} (r : SR S H0 μ0 Fz G σ H env w μ) (rp : Rep S (hide H (BB μ G env σ)) μ d v) : SR S H0 μ0 Fz G (σ.set i (some v)) H (env.set i (.val d)) w μ :=
  r.slots (r.rel.setV rp) (own_set fun e z => by cases z)
theorem SR.frz (r : SR S H0 μ0 Fz G σ H env w μ) (c : CE) : SR S H0 μ0 Fz G σ H (frzI c env) w μ := r.slots r.rel.frzI frzI_own
/-- a new list or dict for a slot -/
theorem Rel.setOwn {i : Nat} {d : D} {a : Addr} (r : Rel S σ H env w μ (gk G Kd.own (.ref a))) (hG : ¬ G a) (no : ¬ ownAt env σ a) (hc : Cont S (hide H (BB μ (gk G Kd.own (.ref a)) env σ)) μ H a d) :
    Rel S (σ.set i (some (.ref a))) H (env.set i (.own d)) w μ G ∧ ∀ b, ownAt (env.set i (.own d)) (σ.set i (some (V.ref a))) b → ownAt env σ b ∨ b = a := by
  have ho : ∀ b, ownAt (env.set i (.own d)) (σ.set i (some (V.ref a))) b → ownAt env σ b ∨ b = a := fun b ⟨j, e, h1, h2⟩ => by
    rcases En.set_get h1 with ⟨rfl, q⟩ | ⟨ne, q⟩
    · right
      rw [List.getElem?_set] at h2
      simp only [if_true] at h2
      split at h2
      · injection h2 with h2; injection h2 with h2; injection h2 with h2; exact h2.symm
      · cases h2
    · left
      exact ⟨j, e, q, by rw [St.set_ne ne] at h2; exact h2⟩
  have le : ∀ b, GO G (env.set i (.own d)) (σ.set i (some (V.ref a))) b → GO (gk G Kd.own (V.ref a)) env σ b := fun b z => by
    rcases z with z | z
    · exact .inl (.inl z)
    · rcases ho b z with z | z
      · exact .inr z
      · exact .inl (.inr ⟨rfl, by rw [z]⟩)
  have fz : Same (hide H (BB μ (gk G Kd.own (V.ref a)) env σ)) (hide H (BB μ G (env.set i (.own d)) (σ.set i (some (V.ref a))))) := hide_mono (fun _ _ e _ => e) fun b o _ nb z => nb (z.imp_right (le b))
  refine ⟨⟨r.wr.mono le, by simp [r.len], fun j e h => ?_, fun j e h => ?_, fun j k e f b h1 h2 h3 h4 => ?_⟩, ho⟩
  · rcases En.set_get h with ⟨rfl, q⟩ | ⟨ne, q⟩
    · cases q
    · obtain ⟨u, p1, p2⟩ := r.val j e q
      exact ⟨u, by rw [St.set_ne ne]; exact p1, Rep.mono fz (Pre.refl _) _ _ p2⟩
  · rcases En.set_get h with ⟨rfl, q⟩ | ⟨ne, q⟩
    · cases q
      have hj : j < σ.length := by
        have := (List.getElem?_eq_some_iff.mp h).1
        rw [← r.len]
        simpa using this
      exact ⟨a, by rw [List.getElem?_set_self hj], hG, hc.mono fz (Pre.refl _) fun _ q => q⟩
    · obtain ⟨b, p1, p2, p3⟩ := r.own j e q
      exact ⟨b, by rw [St.set_ne ne]; exact p1, fun z => p2 (.inl z), p3.mono fz (Pre.refl _) fun _ q => q⟩
  · rcases En.set_get h1 with ⟨rfl, q⟩ | ⟨ne, q⟩
    · rcases En.set_get h2 with ⟨e2, q2⟩ | ⟨ne2, q2⟩
      · exact e2.symm
      · exfalso
        rw [St.set_ne ne2] at h4
        have ea : b = a := by
          rw [List.getElem?_set] at h3
          simp only [if_true] at h3
          split at h3
          · injection h3 with h3; injection h3 with h3; injection h3 with h3; exact h3.symm
          · cases h3
        subst ea
        exact no ⟨k, f, q2, h4⟩
    · rcases En.set_get h2 with ⟨e2, q2⟩ | ⟨ne2, q2⟩
      · exfalso
        subst e2
        rw [St.set_ne ne] at h3
        have ea : b = a := by
          rw [List.getElem?_set] at h4
          simp only [if_true] at h4
          split at h4
          · injection h4 with h4; injection h4 with h4; injection h4 with h4; exact h4.symm
          · cases h4
        subst ea
        exact no ⟨j, e, q, h3⟩
      · rw [St.set_ne ne] at h3
        rw [St.set_ne ne2] at h4
        exact r.uniq j k e f b q q2 h3 h4
/-- a slot's own list or dict is changed -/
theorem Rel.mutOwn {i : Nat} {d d' : D} {a : Addr} {u : HO} (r : Rel S σ H env w μ G) (h1 : env[i]? = some (.own d)) (h2 : σ[i]? = some (some (V.ref a))) (hc : Cont S (hide H (BB μ G env σ)) μ (upd H a u) a d') :
    Rel S σ (upd H a u) (env.set i (.own d')) w μ G ∧ ∀ b, ownAt (env.set i (.own d')) σ b ↔ ownAt env σ b := by
  have ho : ∀ b, ownAt (env.set i (.own d')) σ b ↔ ownAt env σ b := fun b => by
    constructor
    · rintro ⟨j, e, p1, p2⟩
      rcases En.set_get p1 with ⟨rfl, q⟩ | ⟨ne, q⟩
      · exact ⟨j, d, h1, p2⟩
      · exact ⟨j, e, q, p2⟩
    · rintro ⟨j, e, p1, p2⟩
      by_cases ne : j = i
      · subst ne
        exact ⟨j, d', by rw [List.getElem?_set_self (List.getElem?_eq_some_iff.mp h1).1], p2⟩
      · exact ⟨j, e, by rw [List.getElem?_set_ne (fun z => ne z.symm)]; exact p1, p2⟩
  have hb : BB μ G env σ a := .inr (.inr ⟨i, d, h1, h2⟩)
  have eh : hide (upd H a u) (BB μ G (env.set i (.own d')) σ) = hide H (BB μ G env σ) := by
    have : BB μ G (env.set i (.own d')) σ = BB μ G env σ := by unfold BB GO; rw [own_eq ho]
    rw [this, hide_upd hb]
  have wr := r.wr.updB (o := u) (p := a) (.inr ⟨i, d, h1, h2⟩)
  refine ⟨⟨wr.mono fun b z => z.imp_right (ho b).mp, by simp [r.len], fun j e h => ?_, fun j e h => ?_, fun j k e f b p1 p2 p3 p4 => ?_⟩, ho⟩
  · rw [eh]
    rcases En.set_get h with ⟨rfl, q⟩ | ⟨ne, q⟩
    · cases q
    · exact r.val j e q
  · rw [eh]
    rcases En.set_get h with ⟨rfl, q⟩ | ⟨ne, q⟩
    · cases q
      obtain ⟨b, q1, q2, q3⟩ := r.own j d h1
      rw [h2] at q1
      cases q1
      exact ⟨_, h2, q2, hc⟩
    · obtain ⟨b, q1, q2, q3⟩ := r.own j e q
      refine ⟨b, q1, q2, q3.mono (fun _ _ z => z) (Pre.refl _) fun o z => ?_⟩
      rw [upd_ne (by rintro rfl; exact ne (r.uniq j i e d b q h1 q1 h2))]
      exact z
  · have k1 : ∃ e', env[j]? = some (Sl.own e') := by
      rcases En.set_get p1 with ⟨rfl, q⟩ | ⟨ne, q⟩
      · exact ⟨d, h1⟩
      · exact ⟨e, q⟩
    have k2 : ∃ e', env[k]? = some (Sl.own e') := by
      rcases En.set_get p2 with ⟨rfl, q⟩ | ⟨ne, q⟩
      · exact ⟨d, h1⟩
      · exact ⟨f, q⟩
    obtain ⟨e1, k1⟩ := k1
    obtain ⟨e2, k2⟩ := k2
    exact r.uniq j k e1 e2 b k1 k2 p3 p4
theorem SR.mutOwn {i : Nat} {d d' : D} {a : Addr} {u : HO} (r : SR S H0 μ0 Fz G σ H env w μ) (h1 : env[i]? = some (.own d)) (h2 : σ[i]? = some (some (V.ref a))) (hc : Cont S (hide H (BB μ G env σ)) μ (upd H a u) a d') :
    SR S H0 μ0 Fz G σ (upd H a u) (env.set i (.own d')) w μ := by
  obtain ⟨r1, ho⟩ := r.rel.mutOwn h1 h2 hc
  refine ⟨r1, fun b o h => ?_, r.fz0, r.mu, fun b z => r.own b ((ho b).mp z), r.pz⟩
  obtain ⟨q1, q2, q3⟩ := r.kp b o h
  exact ⟨by rw [upd_ne (by rintro rfl; exact q3 ⟨i, d, h1, h2⟩)]; exact q1, q2, fun z => q3 ((ho b).mp z)⟩
theorem ExcR.mono {F F' : Hp} {μ : List Addr} {p : List D} {dx : Option Addr} {H : Hp} (hF : Same F F') (h : ExcR S F μ p dx H) : ExcR S F' μ p dx H := by
  revert h
  unfold ExcR
  split
  · exact id
  · rintro ⟨a, v, h1, h2, h3⟩
    exact ⟨a, v, h1, h2, Rep.mono hF (Pre.refl _) _ _ h3⟩
  · exact id
theorem hide_go : Same (hide H (BB μ G env σ)) (hide H fun b => b ∈ μ ∨ G b) := hide_mono (fun _ _ e _ => e) fun b o _ nb z => nb (z.imp_right .inl)
/-- an expression of a statement -/
theorem PostS.bnd {x : M (Kd × D)} {f : Kd × D → Wd → Option Out} (h : PostS S W H0 μ0 G Fz Z (obnd x f)) (r : SR S H0 μ0 Fz G σ H env w μ)
    (k : ∀ a w1 v H1 μ1, Ext H μ H1 μ1 → Rel S σ H1 env w1 μ1 (gk G a.1 v) → VR S σ H1 env w1 μ1 (gk G a.1 v) a.1 a.2 v → (∀ b, a.1 = Kd.own → v = V.ref b → H b = none) → SR S H0 μ0 Fz G σ H1 env w1 μ1 → PostS S W H0 μ0 G Fz Z (f a w1) → Q v H1) : PostE S W σ H env μ G Q x := by
  cases x with
  | none => exact h
  | some x => cases x with
    | exc c p w' => exact fun dx H' μ' e' r' x' => h dx σ H' μ' (r.ext0.trans e') (r'.wr.mono fun b z => .inl z) (x'.mono hide_go)
    | ok a w' => exact fun v H' μ' e r' vr fr => k a w' v H' μ' e r' vr fr (r.ext e (r'.mono gk_le)) h
theorem setMany_own_le : ∀ {is : List Nat} {ds : List D} {us : List V} {env env' : En} {σ : L2.St}, setMany is ds env = some env' → ∀ a, ownAt env' (setAll σ is us) a → ownAt env σ a
  | [], [], us, env, env', σ, e, a, h => by cases e; simpa [setAll] using h
  | [], _ :: _, us, env, env', σ, e, a, h => by cases e
  | _ :: _, [], us, env, env', σ, e, a, h => by cases e
  | i :: is, d :: ds, [], env, env', σ, e, a, h => by
    have e2 : setMany is ds (env.set i (.val d)) = some env' := e
    have h1 := setMany_own_le (us := []) (σ := σ) e2 a (by simpa [setAll] using h)
    obtain ⟨j, f, p1, p2⟩ := h1
    rcases En.set_get p1 with ⟨_, q⟩ | ⟨_, q⟩
    · cases q
    · exact ⟨j, f, q, p2⟩
  | i :: is, d :: ds, u :: us, env, env', σ, e, a, h => by
    have e2 : setMany is ds (env.set i (.val d)) = some env' := e
    exact own_set (fun e z => by cases z) a (setMany_own_le (us := us) (σ := σ.set i (some u)) e2 a h)
theorem bind_own_le {tg : Tg} {d : D} {us : List V} (e : bindTg tg d env = some env') (a : Addr) (h : ownAt env' (setAll σ (tgIs tg) us) a) : ownAt env σ a := by
  cases tg with
  | one i =>
    simp only [bindTg, set1, Option.some.injEq] at e
    subst e
    cases us with
    | nil =>
      obtain ⟨j, f, p1, p2⟩ := h
      rcases En.set_get p1 with ⟨_, q⟩ | ⟨_, q⟩
      · cases q
      · exact ⟨j, f, q, p2⟩
    | cons u us => exact own_set (x := .val d) (y := some u) (i := i) (fun e z => by cases z) a (by simpa [setAll, tgIs] using h)
  | many is =>
    cases d with
    | tup ds => exact setMany_own_le e a h
    | _ => cases e
/-- a value at its slot -/
theorem asg_post {i : Nat} {x : Kd × D} {v : V} (r : SR S H0 μ0 Fz G σ H env w μ) (e1 : Ext H μ H1 μ1) (r1 : Rel S σ H1 env w1 μ1 (gk G x.1 v)) (v1 : VR S σ H1 env w1 μ1 (gk G x.1 v) x.1 x.2 v) (f1 : ∀ a, x.1 = Kd.own → v = V.ref a → H a = none) (s1 : SR S H0 μ0 Fz G σ H1 env w1 μ1)
    (p1 : PostS S W H0 μ0 G Fz Z (match (generalizing := false) x with | (.val, d) => some (.next (env.set i (.val d)) w1) | (.own, d) => some (.next (env.set i (.own d)) w1) | _ => none)) : Z.nx (σ.set i (some v)) H1 := by
  obtain ⟨k, d⟩ := x
  have hg : ∀ a, k = Kd.own → v = V.ref a → ¬ G a := fun a h1 h2 z => r.rel.wr.gd a (.inl z) (f1 a h1 h2)
  cases k with
  | val => exact p1 _ H1 μ1 (s1.setV (v1.keep hg r1 (e := d) rfl).2)
  | own =>
    obtain ⟨b, rfl, g, no, hc⟩ := v1
    obtain ⟨r2, ho⟩ := r1.setOwn (i := i) (hg b rfl rfl) no hc
    have hb := f1 b rfl rfl
    refine p1 _ H1 μ1 ⟨r2, fun c o q => ?_, s1.fz0, s1.mu, fun c z => ?_, s1.pz⟩
    · obtain ⟨q1, q2, q3⟩ := s1.kp c o q
      refine ⟨q1, q2, fun z => ?_⟩
      rcases ho c z with z | z
      · exact q3 z
      · subst z
        have := (r.kp c o q).1
        rw [hb] at this
        cases this
    · rcases ho c z with z | z
      · exact s1.own c z
      · rw [z]; exact r.none0 hb
  | slot j => exact p1.elim
  | cel => exact p1.elim
theorem t_asg {i : Nat} (h : tS S W T H0 μ0 G (.asg (.one i) a) Z σ H) : tAsg (tE S W T a) (gName i) Z σ H := by
  obtain ⟨Fz, env, w, μ, r, p⟩ := h
  rw [evS] at p
  refine ⟨env, w, μ, G, r.rel, p.bnd r fun x w1 v H1 μ1 e1 r1 v1 f1 s1 p1 => ?_⟩
  exact asg_post r e1 r1 v1 f1 s1 p1
theorem t_asgM {is : List Nat} (h : tS S W T H0 μ0 G (.asg (.many is) a) Z σ H) : tAsg (tE S W T a) (gD S.K (.many is)) Z σ H := by
  obtain ⟨Fz, env, w, μ, r, p⟩ := h
  rw [evS] at p
  refine ⟨env, w, μ, G, r.rel, p.bnd r fun x w1 v H1 μ1 e1 r1 v1 f1 s1 p1 => ?_⟩
  have hg : ∀ a, x.1 = Kd.own → v = V.ref a → ¬ G a := fun a h1 h2 z => r.rel.wr.gd a (.inl z) (f1 a h1 h2)
  cases hk : keepOk x with
  | none => rw [hk] at p1; exact p1.elim
  | some d =>
    rw [hk] at p1
    dsimp only at p1
    cases hb : bindTg (.many is) d env with
    | none => rw [hb] at p1; exact p1.elim
    | some env' =>
      rw [hb] at p1
      obtain ⟨e, rp⟩ := v1.keep hg r1 hk
      subst e
      refine g_bind s1.rel rp hb fun us hu r2 => p1 _ H1 μ1 (s1.slots r2 ?_)
      exact bind_own_le hb
end
end R
end
section
set_option Elab.async false
set_option linter.all false
set_option maxRecDepth 100000
/-! RC8: statements, one by one. -/
namespace R
open PySem PySem.Spec PyProof.Rows L2
section
variable {S : St0} {W : WX} {T : Tab} {H0 : Hp} {μ0 : List Addr} {Fz : FZ} {Z : Ends} {σ σ' : L2.St} {H H' H1 : Hp} {env env' : En} {w w' w1 : Wd} {μ μ' μ1 : List Addr} {G G' G1 : Addr → Prop} {Q Q' : VK} {a b c : CE} {R : It → Hp → Prop} {x y : CS}
theorem t_snil (h : tS S W T H0 μ0 G .nil Z σ H) : tNext Z σ H := by
  obtain ⟨Fz, env, w, μ, r, p⟩ := h
  rw [evS] at p
  exact p σ H μ r
theorem t_pass (h : tS S W T H0 μ0 G .pass Z σ H) : tNext Z σ H := by
  obtain ⟨Fz, env, w, μ, r, p⟩ := h
  rw [evS] at p
  exact p σ H μ r
theorem t_brk (h : tS S W T H0 μ0 G .brk Z σ H) : tBreak Z σ H := by
  obtain ⟨Fz, env, w, μ, r, p⟩ := h
  rw [evS] at p
  exact p σ H μ r
theorem t_cnt (h : tS S W T H0 μ0 G .cnt Z σ H) : tCont Z σ H := by
  obtain ⟨Fz, env, w, μ, r, p⟩ := h
  rw [evS] at p
  exact p σ H μ r
theorem t_seq (h : tS S W T H0 μ0 G (.cons x y) Z σ H) : tSeq (tS S W T H0 μ0 G x) (tS S W T H0 μ0 G y) Z σ H := by
  obtain ⟨Fz, env, w, μ, r, p⟩ := h
  rw [evS] at p
  refine ⟨Fz, env, w, μ, r, ?_⟩
  cases hx : evS T x env w with
  | none => rw [hx] at p; exact p
  | some o =>
    rw [hx] at p
    cases o with
    | next env1 w1 => exact fun σ' H' μ' s => ⟨Fz, env1, w1, μ', s, p⟩
    | ret k d w' => cases k <;> exact p
    | _ => exact p
theorem t_frz {i : Nat} (h : tS S W T H0 μ0 G (.cons (.frz i) y) Z σ H) : tS S W T H0 μ0 G y Z σ H := by
  obtain ⟨Fz, env, w, μ, r, p⟩ := h
  rw [evS, evS] at p
  exact ⟨Fz, _, w, μ, r.frz (.iv (.var i)), p⟩
theorem t_ex (h : tS S W T H0 μ0 G (.ex a) Z σ H) : tDrop (tE S W T a) Z σ H := by
  obtain ⟨Fz, env, w, μ, r, p⟩ := h
  rw [evS] at p
  exact ⟨env, w, μ, G, r.rel, p.bnd r fun x w1 v H1 μ1 e1 r1 v1 f1 s1 p1 => p1 σ H1 μ1 s1⟩
theorem t_ifs (h : tS S W T H0 μ0 G (.ite c x y) Z σ H) : tIfS (tT S W T c) (tS S W T H0 μ0 G x) (tS S W T H0 μ0 G y) Z σ H := by
  obtain ⟨Fz, env, w, μ, r, p⟩ := h
  rw [evS] at p
  refine ⟨env, w, μ, G, r.rel, p.bnd r fun b w1 v H1 μ1 e1 r1 v1 f1 s1 p1 => ?_⟩
  obtain ⟨k, d⟩ := b
  cases d with
  | bl b =>
    cases b with
    | true => exact ⟨true, v1.blD r1, by dsimp only; rw [if_pos rfl]; exact ⟨Fz, env, w1, μ1, s1, p1⟩⟩
    | false => exact ⟨false, v1.blD r1, by dsimp only; rw [if_neg Bool.false_ne_true]; exact ⟨Fz, env, w1, μ1, s1, p1⟩⟩
  | _ => exact False.elim p1
theorem t_retn (h : tS S W T H0 μ0 G .retn Z σ H) : tRetN Z σ H := by
  obtain ⟨Fz, env, w, μ, r, p⟩ := h
  rw [evS] at p
  exact p .non H μ r.ext0 (r.rel.wr.mono fun b z => .inl z) (by simp only [Rep])
theorem ret_own {d : D} {v : Addr} (p : PostS S W H0 μ0 G Fz Z (some (.ret .own d w))) (s : Ext H0 μ0 H μ) (hn : H0 v = none) (wr : WRel S H μ w (GO G1 env σ)) (hg : ∀ b, G b ∨ b = v → GO G1 env σ b) (hc : Cont S (hide H (BB μ G1 env σ)) μ H v d) : Z.rt (.ref v) H :=
  p v H μ s hn (wr.mono hg) (hc.mono (hide_mono (fun _ _ e _ => e) fun b o _ nb z => nb (z.imp_right (hg b))) (Pre.refl _) fun _ q => q)
theorem t_ret (h : tS S W T H0 μ0 G (.ret a) Z σ H) : tRet (tE S W T a) Z σ H := by
  obtain ⟨Fz, env, w, μ, r, p⟩ := h
  rw [evS] at p
  cases hv : varOf a with
  | none =>
    rw [hv] at p
    refine ⟨env, w, μ, G, r.rel, PostS.bnd p r fun x w1 v H1 μ1 e1 r1 v1 f1 s1 p1 => ?_⟩
    have hg : ∀ a, x.1 = Kd.own → v = V.ref a → ¬ G a := fun a h1 h2 z => r.rel.wr.gd a (.inl z) (f1 a h1 h2)
    obtain ⟨k, d⟩ := x
    cases k with
    | val =>
      have := (v1.keep hg r1 (e := d) rfl).2
      exact p1 v H1 μ1 s1.ext0 (s1.rel.wr.mono fun b z => .inl z) (Rep.mono hide_go (Pre.refl _) _ _ this)
    | own =>
      obtain ⟨b, rfl, g, no, hc⟩ := v1
      exact ret_own p1 s1.ext0 (r.none0 (f1 b rfl rfl)) r1.wr (fun c z => .inl (z.imp_right fun e => ⟨rfl, by rw [e]⟩)) hc
    | slot j => exact False.elim p1
    | cel => exact False.elim p1
  | some i =>
    have ea : a = .var i := by
      cases a <;> simp [varOf] at hv
      rw [hv]
    subst ea
    rw [hv] at p
    dsimp only at p
    refine ⟨env, w, μ, G, r.rel, ?_⟩
    rw [evE]
    split at p
    · rename_i d hd
      intro v H1 μ1 e1 r1 v1 f1
      have s1 := r.ext e1 (r1.mono gk_le)
      have := (VR.keep v1 (e := d) (fun a h _ => by cases h) r1 rfl).2
      exact p v H1 μ1 s1.ext0 (s1.rel.wr.mono fun b z => .inl z) (Rep.mono hide_go (Pre.refl _) _ _ this)
    · rename_i d hd
      intro v H1 μ1 e1 r1 v1 f1
      have s1 := r.ext e1 (r1.mono gk_le)
      obtain ⟨b, rfl, h1, h2⟩ := v1
      obtain ⟨b', h3, h4, h5⟩ := s1.rel.own i d h1
      have e : b' = b := by
        have : σ[i]? = some (some (V.ref b)) := h2
        rw [h3] at this
        cases this; rfl
      subst e
      exact ret_own p s1.ext0 (s1.own b' ⟨i, d, h1, h2⟩) s1.rel.wr (fun c z => z.imp_right fun e => by rw [e]; exact ⟨i, d, h1, h2⟩) h5
    · exact False.elim p
theorem t_aug {i : Nat} {o : BOp} {f : Int → Int → Int} (hf : ∀ x y, binD o (.int x) (.int y) = some (.val, .int (f x y))) (ho : o = .add ∨ o = .sub) (h : tS S W T H0 μ0 G (.aug i o a) Z σ H) : tAug i (tE S W T a) (ipI f) Z σ H := by
  obtain ⟨Fz, env, w, μ, r, p⟩ := h
  rw [evS] at p
  split at p
  · rename_i n hn
    obtain ⟨v, h1, h2⟩ := r.rel.val i _ hn
    simp only [Rep] at h2
    subst h2
    refine ⟨_, h1, env, w, μ, G, r.rel, p.bnd r fun x w1 v H1 μ1 e1 r1 v1 f1 s1 p1 => ?_⟩
    obtain ⟨k, d⟩ := x
    have hint : ∃ m, d = .int m := by
      rcases ho with rfl | rfl <;> cases d <;> first | exact ⟨_, rfl⟩ | exact False.elim p1
    obtain ⟨m, rfl⟩ := hint
    refine ⟨n, m, rfl, v1.intD r1, ?_⟩
    rw [hf] at p1
    exact p1 _ H1 μ1 (s1.setV (by simp only [Rep]))
  · exact False.elim p
theorem t_par {i j : Nat} {l : CE} (h : tS S W T H0 μ0 G (.par i j l) Z σ H) : tPar i j (tL S W T l) Z σ H := by
  obtain ⟨Fz, env, w, μ, r, p⟩ := h
  rw [evS] at p
  refine ⟨env, w, μ, G, r.rel, ?_⟩
  cases hx : evL T l env w with
  | none => rw [hx] at p; exact p
  | some x => cases x with
    | exc c q w' =>
      rw [hx] at p
      exact fun dx H' μ' e' r' x' => p dx σ H' μ' (r.ext0.trans e') (r'.wr.mono fun b z => .inl z) (x'.mono hide_go)
    | ok xs w1 =>
      rw [hx] at p
      intro vs H1 μ1 e1 r1 v1
      have s1 := r.ext e1 r1
      replace p : PostS S W H0 μ0 G Fz Z (match keepAll xs with
        | some [d, e] => some (.next ((env.set i (.val d)).set j (.val e)) w1)
        | _ => none) := p
      split at p
      · rename_i d e hk
        obtain ⟨v, t, rfl, g1, g2⟩ := (v1.keep hk).inv
        obtain ⟨u, t2, rfl, g3, g4⟩ := g2.inv
        have e4 := g4.inv0
        subst e4
        refine ⟨v, u, rfl, p _ H1 μ1 ?_⟩
        refine (s1.setV (i := i) g1).setV (i := j) (Rep.mono (hide_mono (fun _ _ e _ => e) fun b o _ nb z => nb (z.imp_right fun q => q.imp_right (own_set (fun e z => by cases z) b))) (Pre.refl _) _ _ g3)
      · exact False.elim p

/-! ### loops -/
theorem SR.weak {Fz2 : FZ} (r : SR S H0 μ0 Fz2 G σ H env w μ) (h : Same Fz.h Fz2.h) (hm : Pre Fz.m Fz2.m) (hf : ∀ b o, H0 b = some o → b ∉ μ0 → Fz.h b = some o) : SR S H0 μ0 Fz G σ H env w μ :=
  ⟨r.rel, fun b o e => r.kp b o (h b o e), hf, r.mu, r.own, hm.trans r.pz⟩
theorem t_wh (h : tS S W T H0 μ0 G (.wh c x) Z σ H) : tWhile (tT S W T c) (tS S W T H0 μ0 G x) Z σ H := by
  obtain ⟨Fz, env, w, μ, r, p⟩ := h
  rw [evS] at p
  refine ⟨fun m σ2 H2 => ∃ env2 w2 μ2, SR S H0 μ0 Fz G σ2 H2 env2 w2 μ2 ∧ PostS S W H0 μ0 G Fz Z (whLoop (evE T c) (evS T x) m env2 w2), ⟨T.fuel, env, w, μ, r, p⟩, ?_⟩
  rintro m σ2 H2 ⟨env2, w2, μ2, r2, p2⟩
  cases m with
  | zero => exact False.elim p2
  | succ m =>
    rw [whLoop] at p2
    refine ⟨env2, w2, μ2, G, r2.rel, p2.bnd r2 fun b w3 v H3 μ3 e3 r3 v3 f3 s3 p3 => ?_⟩
    obtain ⟨k, d⟩ := b
    cases d with
    | bl b =>
      cases b with
      | false =>
        refine ⟨false, v3.blD r3, ?_⟩
        dsimp only
        rw [if_neg Bool.false_ne_true]
        exact p3 σ2 H3 μ3 s3
      | true =>
        refine ⟨true, v3.blD r3, ?_⟩
        dsimp only
        rw [if_pos rfl]
        refine ⟨fun σ' H' => ∃ env2 w2 μ2, SR S H0 μ0 Fz G σ' H' env2 w2 μ2 ∧ PostS S W H0 μ0 G Fz Z (whLoop (evE T c) (evS T x) m env2 w2), fun σ' H' z => ⟨m, Nat.lt_succ_self m, z⟩, Fz, env2, w3, μ3, s3, ?_⟩
        replace p3 : PostS S W H0 μ0 G Fz Z (match evS T x env2 w3 with
          | some (.next env2 w2) => whLoop (evE T c) (evS T x) m env2 w2
          | some (.cnt env2 w2) => whLoop (evE T c) (evS T x) m env2 w2
          | some (.brk env2 w2) => some (.next env2 w2)
          | r => r) := p3
        cases hx : evS T x env2 w3 with
        | none => rw [hx] at p3; exact p3
        | some o =>
          rw [hx] at p3
          cases o with
          | next env4 w4 => exact fun σ' H' μ' s => ⟨env4, w4, μ', s, p3⟩
          | cnt env4 w4 => exact fun σ' H' μ' s => ⟨env4, w4, μ', s, p3⟩
          | brk env4 w4 => exact p3
          | ret k d w' => cases k <;> exact p3
          | exc c p w' => exact p3
    | _ => exact False.elim p3
theorem t_for {tg : Tg} {it : CE} (h : tS S W T H0 μ0 G (.for tg it x) Z σ H) : tFor (tI S W T it) (gD S.K tg) (tS S W T H0 μ0 G x) Z σ H := by
  obtain ⟨Fz, env, w, μ, r, p⟩ := h
  rw [evS] at p
  refine ⟨env, w, μ, G, r.rel, ?_⟩
  cases hx : evI T it env w with
  | none => rw [hx] at p; exact p
  | some o => cases o with
    | exc c q w' =>
      rw [hx] at p
      exact fun dx H' μ' e' r' x' => p dx σ H' μ' (r.ext0.trans e') (r'.wr.mono fun b z => .inl z) (x'.mono hide_go)
    | ok xs w1 =>
      rw [hx] at p
      intro J H1 μ1 Ks e1 r1 wk hk hz
      have s1 := r.ext e1 r1
      replace p : PostS S W H0 μ0 G Fz Z (forLoop tg (evS T x) xs (frzI it env) w1) := p
      have sF := s1.frz it
      let Fz2 : FZ := ⟨hide H1 fun b => b ∈ μ1 ∨ ownAt (frzI it env) σ b, μ1⟩
      have hF2 : ∀ b o, H1 b = some o → b ∉ μ1 → ¬ ownAt (frzI it env) σ b → Fz2.h b = some o := fun b o h1 h2 h3 => hide_of (B := fun b => b ∈ μ1 ∨ ownAt (frzI it env) σ b) h1 fun z => Or.elim z h2 h3
      have le : Same Fz.h Fz2.h := fun b o e => by
        obtain ⟨q1, q2, q3⟩ := sF.kp b o e
        exact hF2 b o q1 q2 q3
      have s2 : SR S H0 μ0 Fz2 G σ H1 (frzI it env) w1 μ1 := ⟨sF.rel, fun b o e => by
        have e : hide H1 (fun b => b ∈ μ1 ∨ ownAt (frzI it env) σ b) b = some o := e
        obtain ⟨q1, q2⟩ := of_hide e
        exact ⟨q1, fun z => q2 (.inl z), fun z => q2 (.inr z)⟩, fun b o e hb => le b o (r.fz0 b o e hb), sF.mu, sF.own, .refl _⟩
      refine for_it wk (fun i σ2 H2 => ∃ env2 w2 μ2, SR S H0 μ0 Fz2 G σ2 H2 env2 w2 μ2 ∧ PostS S W H0 μ0 G Fz Z (forLoop tg (evS T x) (xs.drop i) env2 w2)) ⟨_, w1, μ1, s2, by simpa using p⟩ ?_ ?_ ?_
      · rintro i σ2 H2 _ ⟨env2, w2, μ2, s3, _⟩ b o e
        obtain ⟨q1, q2, q3⟩ := hk b o e
        exact (s3.kp b o (hF2 b o q1 q2 q3.1)).1
      · rintro i v σ2 H2 H3 hi ⟨env2, w2, μ2, s3, p3⟩ ⟨s23, item⟩
        rw [List.drop_eq_getElem_cons hi, forLoop] at p3
        have r3 : Rel S σ2 H3 env2 w2 μ2 G := s3.rel.grow s23
        have s4 : SR S H0 μ0 Fz2 G σ2 H3 env2 w2 μ2 := s3.ext (s3.rel.ext0 s23) r3
        have fz : Same (hide H1 (BB μ1 G env σ)) (hide H2 (BB μ2 G env2 σ2)) := fun b o e => by
          obtain ⟨q1, q2⟩ := of_hide e
          obtain ⟨z1, z2, z3⟩ := s3.kp b o (hF2 b o q1 (fun t => q2 (.inl t)) fun t => q2 (.inr (.inr (frzI_own b t))))
          exact hide_of z1 fun z => Or.elim z z2 fun t => Or.elim t (fun g => q2 (.inr (.inl g))) z3
        have ex : Pre μ1 μ2 := s3.pz
        have ri : Rep S (hide H3 (BB μ2 G env2 σ2)) μ2 xs[i] v := by
          have q := item xs[i] (by simp [hi]) _ fz (hide_same _ _)
          refine Rep.mono (fun b o z => ?_) ex _ _ q
          unfold grow at z
          cases y : H2 b with
          | none => rw [y] at z; exact hide_of z fun t => s3.rel.nd t y
          | some u =>
            rw [y] at z
            obtain ⟨z1, z2⟩ := of_hide z
            exact hide_of (s23 b o z1) z2
        cases hb : bindTg tg xs[i] env2 with
        | none => rw [hb] at p3; exact False.elim p3
        | some env3 =>
          rw [hb] at p3
          refine g_bind r3 ri hb fun us hu r5 => ⟨Fz2, env3, w2, μ2, s4.slots r5 (bind_own_le hb), ?_⟩
          dsimp only at p3
          cases ho : evS T x env3 w2 with
          | none => rw [ho] at p3; exact p3
          | some o =>
            rw [ho] at p3
            cases o with
            | next env4 w4 => exact fun σ' H' μ' s => ⟨env4, w4, μ', s, p3⟩
            | cnt env4 w4 => exact fun σ' H' μ' s => ⟨env4, w4, μ', s, p3⟩
            | brk env4 w4 => exact fun σ' H' μ' s => p3 σ' H' μ' (s.weak le s1.pz r.fz0)
            | ret k d w' => cases k <;> exact p3
            | exc c p w' => exact p3
      · rintro σ2 H2 ⟨env2, w2, μ2, s3, p3⟩
        rw [List.drop_length, forLoop] at p3
        exact p3 σ2 H2 μ2 (s3.weak le s1.pz r.fz0)
end
end R
end
section
set_option Elab.async false
set_option linter.all false
set_option maxRecDepth 100000
/-! RC9: statements that change lists and dicts; raise. -/
namespace R
open PySem PySem.Spec PyProof.Rows L2
/-- o[i] = v -/
def rPutD (S : St0) : TSet := fun o i v H Q => ∃ F μ a d k e d', o = .ref a ∧ Same F H ∧ Cont S F μ H a d ∧ Rep S F μ k i ∧ Rep S F μ e v ∧ putD d k e = some d' ∧ ∀ u, Cont S F μ (upd H a u) a d' → Q (upd H a u)
/-- d.pop(k) -/
def rPopD (S : St0) : V → List V → Hp → VK → Prop := fun x vs H Q => ∃ F μ a d k y d', x = .ref a ∧ vs = [y] ∧ Same F H ∧ Cont S F μ H a d ∧ Rep S F μ k y ∧ popD d k = some d' ∧ ∀ u v, Cont S F μ (upd H a u) a d' → Q v (upd H a u)
section
variable {S : St0} {X : Cx}
theorem ky_of_isKey {ks : List D} (h : ks.all isKey = true) : ks.all (ky 8) = true := by
  rw [List.all_eq_true] at h ⊢
  exact fun d hd => (isKey_ky (h d hd)).choose_spec.2
theorem set_putD (A : Agree S X) (hu : X.A.units + 65 < cLine) : PSet X (rPutD S) := by
  intro pins s σ H o i v ov iv u Q I ro ri rv h
  obtain ⟨F, μ, a, d, k, e, d', rfl, hF, hc, hk, he, hp, q⟩ := h
  cases d with
  | lst xs =>
    obtain ⟨vs, h1, h2⟩ := hc
    cases k with
    | int n =>
      simp only [putD, Option.map_eq_some_iff] at hp
      obtain ⟨j, hj, rfl⟩ := hp
      simp only [Rep] at hk
      subst hk
      refine set_list pins s σ H _ _ v ov iv u Q I ro ri rv ⟨a, vs, n, j, rfl, rfl, h1, by rw [h2.length]; exact hj, q _ ⟨_, upd_same, h2.set he j⟩⟩
    | _ => simp only [putD] at hp; cases hp
  | dic ks ws =>
    obtain ⟨ob, kv, wv, h1, hsys, h2, h3, h4, h5⟩ := hc
    simp only [putD] at hp
    split at hp
    · rename_i hz
      simp only [Bool.and_eq_true, decide_eq_true_eq] at hz
      cases hp
      cases ro
      refine dict_put A hu hF I h1 h2 hz.1.2 h4 h5 hz.1.1 hk he ri rv hz.2 fun s' o' kv' wv' I' g1 g2 g3 g4 => ?_
      exact ⟨_, I', q _ ⟨o', kv', wv', upd_same, hsys, g1, ky_of_isKey g2, g3, g4⟩⟩
    · cases hp
  | _ => exact hc.elim
theorem mt_popD (A : Agree S X) (hu : X.A.units + 65 < cLine) : MtR X "dict.pop" (rPopD S) := by
  intro pins s σ H x xs v us Q I rx rs h
  obtain ⟨F, μ, a, d, k, y, d', rfl, rfl, hF, hc, hk, hp, q⟩ := h
  obtain ⟨u, rfl, ru⟩ := rs.one
  cases d with
  | dic ks ws =>
    obtain ⟨ob, kv, wv, h1, hsys, h2, h3, h4, h5⟩ := hc
    simp only [popD] at hp
    split at hp
    · rename_i hz
      simp only [Bool.and_eq_true] at hz
      cases hp
      cases rx
      refine dict_pop A hu hF I h1 hsys h2 hz.1.2 h4 h5 hz.1.1 hz.2 hk ru fun s' o' kv' wv' y' z I' ry g1 g2 g3 g4 => ?_
      exact ⟨y', _, I', ry, q _ _ ⟨o', kv', wv', upd_same, hsys, g1, ky_of_isKey g2, g3, g4⟩⟩
    · cases hp
  | _ => simp only [popD] at hp; cases hp
/-- a method of a built-in type on a value of that type, by its state -/
def TyIs (X : Cx) (T : String) (x : V) (H : Hp) : Prop := ∀ (pins : List (Addr × Obj)) (s : Shared) (σ : L2.St) (v : Value), Inv X pins σ H s → RelV x v → s.TypeIs v T ∧ ∀ a, v = .ref a → ∃ ob, s.heap.get? a = some ob ∧ ob.dict = none
def tBX (X : Cx) (T : String) (r : V → List V → Hp → VK → Prop) (to : TE) (t : TA) : TE := fun σ H Q => to σ H fun x H1 => TyIs X T x H1 ∧ t σ H1 fun xs H2 => r x xs H2 Q
theorem tyIs_dict {F : Hp} {μ : List Addr} {H : Hp} {a : Addr} {ks ws : List D} (h : Cont S F μ H a (.dic ks ws)) : TyIs X "dict" (.ref a) H := fun pins s σ v I r => by
  cases r
  obtain ⟨o, kv, wv, h1, _, h2, _⟩ := h
  obtain ⟨e, _⟩ := I.hok a _ h1
  obtain ⟨e1, e2, _⟩ := id h2.ex
  exact ⟨by first | exact ⟨o, e, e1⟩ | exact ⟨o, e, by simpa using e1⟩, fun b hb => by cases hb; exact ⟨o, e, by first | exact e2 | simpa using e2⟩⟩

variable {o e : Expr} {es : List Expr} {to : TE} {t : TA} {name : Str} {apos cpos : Pos} {T' id : String} {r : V → List V → Hp → VK → Prop}
theorem pe_bmX (pa : PlainAttrs T') (slot : Slot T' name id) (hty : typeOf (.builtin id) = pure (.type "method_descriptor")) (hm : MtR X id r) (ho : PE X o to) (ha : PA X (e :: es) t)
    (hbase : attributeBase o name X.env (eval o X.env) = eval o X.env)
    (hfew : ((backTo cpos (starEach (e :: es) X.env)).all (fun x => !x.1) && (backToKw cpos (keywordEach [] X.env)).all (fun x => x.1.isSome)
      && decide ((e :: es).length + ([] : List Keyword).length + (if ([] : List Keyword).isEmpty then 0 else 1) < 30)) = true)
    (hline : (apos.endLine == cpos.line) = true) (hs : starEach (e :: es) X.env = (false, eval e X.env) :: starEach es X.env) (hplain : (backTo cpos (starEach es X.env)).any (·.1) = false) :
    PE X (.Call (.Attribute o name apos) (e :: es) [] cpos) (tBX X T' r to t) := by
  refine ⟨fun pins s σ H Q I h => ?_⟩
  refine wpAny_Call_method_late hbase hfew hline rfl (thn (ho.run pins s σ H _ I h) fun v s1 ⟨x, H1, I1, r1, ty, q1⟩ => ?_)
  obtain ⟨h1, h2⟩ := ty pins s1 σ v I1 r1
  refine ⟨T', id, pa, slot, hty, h1, h2, ?_⟩
  have run := ha.run cpos pins s1 σ H1 _ I1 q1
  rw [hs] at run ⊢
  refine Calls.callWith_builtin (by show (false || (backTo cpos (starEach es X.env)).any (·.1)) = false; rw [hplain] <;> rfl) (Calls.evalArgs_plain ?_)
  exact thn run fun us s2 ⟨xs, H2, I2, rs, q2⟩ => hm pins s2 σ H2 x xs v us Q I2 r1 rs q2
end
section
variable {S : St0} {W : WX} {T : Tab} {X : Cx} {H0 : Hp} {μ0 : List Addr} {Fz : FZ} {Z : Ends} {σ σ' : L2.St} {H H' H1 : Hp} {env env' : En} {w w' w1 : Wd} {μ μ' μ1 : List Addr} {G G' G1 : Addr → Prop} {Q Q' : VK} {a b c : CE} {R : It → Hp → Prop} {x y : CS}
theorem PostS.keepB {f : D → Wd → Option Out} {g : Option Out} (h : PostS S W H0 μ0 G Fz Z (obnd (evE T a env w) fun x w1 => match keepOk x with
      | some d => f d w1
      | none => none)) (r : SR S H0 μ0 Fz G σ H env w μ)
    (k : ∀ d w1 v H1 μ1, SR S H0 μ0 Fz G σ H1 env w1 μ1 → Rep S (hide H1 (BB μ1 G env σ)) μ1 d v → PostS S W H0 μ0 G Fz Z (f d w1) → Q v H1) : tE S W T a σ H Q := by
  refine ⟨env, w, μ, G, r.rel, PostS.bnd h r fun x w1 v H1 μ1 e1 r1 v1 f1 s1 p1 => ?_⟩
  have hg : ∀ a, x.1 = Kd.own → v = V.ref a → ¬ G a := fun a h1 h2 z => r.rel.wr.gd a (.inl z) (f1 a h1 h2)
  cases hk : keepOk x with
  | none => rw [hk] at p1; exact False.elim p1
  | some d =>
    rw [hk] at p1
    obtain ⟨e, rp⟩ := v1.keep hg r1 hk
    subst e
    exact k _ w1 v H1 μ1 s1 rp p1
theorem tyIs_list {a : Addr} {vs : List V} (h : SqL X.K H a vs) : TyIs X "list" (.ref a) H := fun pins s σ v I r => tyV_is I r (.inl ⟨rfl, vs, h⟩)
theorem t_app {i : Nat} (h : tS S W T H0 μ0 G (.app i a) Z σ H) : tDrop (tBX X "list" rAppend (tVar i) (tCons (tE S W T a) tNil)) Z σ H := by
  obtain ⟨Fz, env, w, μ, r, p⟩ := h
  rw [evS] at p
  split at p
  · rename_i xs hi
    obtain ⟨b, h1, h2, h3⟩ := r.rel.own i _ hi
    obtain ⟨vs, h4, h5⟩ := id h3
    refine ⟨_, h1, tyIs_list (.inl (.inl h4)), PostS.keepB (g := none) p r fun d w1 v H1 μ1 s1 rp p1 => ?_⟩
    split at p1
    · rename_i hz
      obtain ⟨b', g1, g2, g3⟩ := s1.rel.own i _ hi
      rw [h1] at g1
      cases g1
      obtain ⟨us, g4, g5⟩ := g3
      refine ⟨b, us, v, rfl, rfl, g4, by rw [g5.length, sizeLine_eq]; exact of_decide_eq_true hz, p1 _ _ _ (s1.mutOwn hi h1 ⟨_, upd_same, g5.append (Reps.cons rp Reps.nil)⟩)⟩
    · exact False.elim p1
  · exact False.elim p
theorem t_put {i : Nat} (h : tS S W T H0 μ0 G (.put i b a) Z σ H) : tAsg (tE S W T a) (gSub (tVar i) (tE S W T b) (rPutD S)) Z σ H := by
  obtain ⟨Fz, env, w, μ, r, p⟩ := h
  rw [evS] at p
  split at p
  · rename_i c hi
    refine PostS.keepB (g := none) p r fun d w1 v H1 μ1 s1 rp p1 => ?_
    obtain ⟨b', h1, h2, h3⟩ := s1.rel.own i _ hi
    refine ⟨_, h1, ⟨env, w1, μ1, G, s1.rel, PostS.bnd p1 s1 fun x w2 u H2 μ2 e2 r2 v2 f2 s2 p2 => ?_⟩⟩
    have hg : ∀ a, x.1 = Kd.own → u = V.ref a → ¬ G a := fun a h1 h2 z => s1.rel.wr.gd a (.inl z) (f2 a h1 h2)
    cases hk : keepOk x with
    | none => rw [hk] at p2; exact False.elim p2
    | some kd =>
      rw [hk] at p2
      dsimp only at p2
      cases hq : putD c kd d with
      | none => rw [hq] at p2; exact False.elim p2
      | some c' =>
        rw [hq] at p2
        obtain ⟨b2, g1, g2, g3⟩ := s2.rel.own i _ hi
        rw [h1] at g1
        cases g1
        obtain ⟨ek, rk⟩ := v2.keep hg r2 hk
        subst ek
        exact ⟨_, μ2, b', c, _, d, c', rfl, hide_same _ _, g3, rk, Rep.mono (s1.rel.frozen e2) e2.pre _ _ rp, hq, fun u hc => p2 _ _ _ (s2.mutOwn hi h1 hc)⟩
  · exact False.elim p
theorem t_popk {i : Nat} (h : tS S W T H0 μ0 G (.popk i a) Z σ H) : tDrop (tBX X "dict" (rPopD S) (tVar i) (tCons (tE S W T a) tNil)) Z σ H := by
  obtain ⟨Fz, env, w, μ, r, p⟩ := h
  rw [evS] at p
  split at p
  · rename_i ks ws hi
    obtain ⟨b, h1, h2, h3⟩ := r.rel.own i _ hi
    refine ⟨_, h1, tyIs_dict h3, PostS.keepB (g := none) p r fun kd w1 v H1 μ1 s1 rp p1 => ?_⟩
    cases hq : popD (.dic ks ws) kd with
    | none => rw [hq] at p1; exact False.elim p1
    | some c' =>
      rw [hq] at p1
      obtain ⟨b', g1, g2, g3⟩ := s1.rel.own i _ hi
      rw [h1] at g1
      cases g1
      exact ⟨_, μ1, b, _, kd, v, c', rfl, rfl, hide_same _ _, g3, rp, hq, fun u v' hc => p1 _ _ _ (s1.mutOwn hi h1 hc)⟩
  · exact False.elim p
/-- a shared thing is changed -/
theorem Rel.mutCel {n : Nat} {d d' : D} {a : Addr} {u : HO} (r : Rel S σ H env w μ G) (h1 : μ[n]? = some a) (h2 : w[n]? = some d) (hc : Cont S (hide H (BB μ G env σ)) μ (upd H a u) a d') : Rel S σ (upd H a u) env (w.set n d') μ G := by
  have ha : a ∈ μ := List.mem_of_getElem? h1
  have eh : hide (upd H a u) (BB μ G env σ) = hide H (BB μ G env σ) := hide_upd (.inl ha)
  refine ⟨⟨by rw [List.length_set]; exact r.wr.len, r.wr.nd, fun m b e g1 g2 => ?_, r.wr.dis, fun b z => ?_⟩, r.len, fun i e h => ?_, fun i e h => ?_, r.uniq⟩
  · show Cont S (hide (upd H a u) (BB μ G env σ)) μ (upd H a u) b e
    rw [eh]
    by_cases hm : m = n
    · subst hm
      rw [h1] at g1
      cases g1
      rw [List.getElem?_set_self (List.getElem?_eq_some_iff.mp h2).1] at g2
      cases g2
      exact hc
    · rw [List.getElem?_set_ne (fun z => hm z.symm)] at g2
      refine (r.wr.cont m b e g1 g2).mono (fun _ _ z => z) (Pre.refl _) fun o z => ?_
      rw [upd_ne]
      · exact z
      · rintro rfl
        refine hm ?_
        obtain ⟨l1, e1⟩ := List.getElem?_eq_some_iff.mp g1
        obtain ⟨l2, e2⟩ := List.getElem?_eq_some_iff.mp h1
        exact (List.getElem_inj r.wr.nd).mp (e1.trans e2.symm)
  · by_cases e : b = a
    · rw [e, upd_same]; simp
    · rw [upd_ne e]; exact r.wr.gd b z
  · rw [eh]; exact r.val i e h
  · rw [eh]
    obtain ⟨b, q1, q2, q3⟩ := r.own i e h
    refine ⟨b, q1, q2, q3.mono (fun _ _ z => z) (Pre.refl _) fun o z => ?_⟩
    rw [upd_ne (by rintro rfl; exact r.own_nc ⟨i, e, h, q1⟩ ha)]
    exact z
theorem SR.mutCel {n : Nat} {d d' : D} {a : Addr} {u : HO} (r : SR S H0 μ0 Fz G σ H env w μ) (h1 : μ[n]? = some a) (h2 : w[n]? = some d) (hc : Cont S (hide H (BB μ G env σ)) μ (upd H a u) a d') : SR S H0 μ0 Fz G σ (upd H a u) env (w.set n d') μ :=
  ⟨r.rel.mutCel h1 h2 hc, fun b o h => by
    obtain ⟨q1, q2, q3⟩ := r.kp b o h
    exact ⟨by rw [upd_ne (by rintro rfl; exact q2 (List.mem_of_getElem? h1))]; exact q1, q2, q3⟩, r.fz0, r.mu, r.own, r.pz⟩
theorem t_cput (h : tS S W T H0 μ0 G (.cput c b a) Z σ H) : tAsg (tE S W T a) (gSub (tE S W T c) (tE S W T b) (rPutD S)) Z σ H := by
  obtain ⟨Fz, env, w, μ, r, p⟩ := h
  rw [evS] at p
  refine PostS.keepB (g := none) p r fun d w1 v H1 μ1 s1 rp p1 => ⟨env, w1, μ1, G, s1.rel, PostS.bnd p1 s1 fun x w2 u H2 μ2 e2 r2 v2 f2 s2 p2 => ?_⟩
  obtain ⟨k, dx⟩ := x
  cases k with
  | val =>
    cases dx with
    | cell n =>
      have hv := (v2.keep (e := .cell n) (fun a h _ => by cases h) r2 rfl).2
      simp only [Rep] at hv
      obtain ⟨a', ha', rfl⟩ := hv
      refine ⟨env, w2, μ2, G, s2.rel, PostS.bnd p2 s2 fun y w3 t H3 μ3 e3 r3 v3 f3 s3 p3 => ?_⟩
      have hg : ∀ a, y.1 = Kd.own → t = V.ref a → ¬ G a := fun a h1 h2 z => s2.rel.wr.gd a (.inl z) (f3 a h1 h2)
      split at p3
      · rename_i kd ct hk hw
        cases hq : putD ct kd d with
        | none => rw [hq] at p3; exact False.elim p3
        | some c' =>
          rw [hq] at p3
          obtain ⟨ek, rk⟩ := v3.keep hg r3 hk
          subst ek
          have h3 := e3.pre.get ha'
          exact ⟨_, μ3, a', ct, _, d, c', rfl, hide_same _ _, s3.rel.wr.cont n a' ct h3 hw, rk, Rep.mono (s1.rel.frozen (e2.trans e3)) (e2.trans e3).pre _ _ rp, hq, fun u hc => p3 _ _ _ (s3.mutCel h3 hw hc)⟩
      · exact False.elim p3
    | _ => exact False.elim p2
  | _ => exact False.elim p2
theorem t_shr {i : Nat} (h : tS S W T H0 μ0 G (.cons (.shr i) y) Z σ H) : tS S W T H0 μ0 G y Z σ H := by
  obtain ⟨Fz, env, w, μ, r, p⟩ := h
  rw [evS, evS] at p
  cases hi : env[i]? with
  | none => rw [hi] at p; exact False.elim p
  | some sl => cases sl with
    | no => rw [hi] at p; exact False.elim p
    | val d => rw [hi] at p; exact False.elim p
    | own d =>
      rw [hi] at p
      obtain ⟨a, h1, h2, h3⟩ := r.rel.own i d hi
      have ho : ∀ b, ownAt (env.set i (.val (.cell w.length))) σ b → ownAt env σ b ∧ b ≠ a := fun b ⟨j, e, p1, p2⟩ => by
        rcases En.set_get p1 with ⟨rfl, q⟩ | ⟨ne, q⟩
        · cases q
        · refine ⟨⟨j, e, q, p2⟩, fun z => ne (r.rel.uniq j i e d a q hi (z ▸ p2) h1)⟩
      have hle : ∀ b, BB (μ ++ [a]) G (env.set i (.val (.cell w.length))) σ b → BB μ G env σ b := fun b z => by
        rcases z with z | z | z
        · rcases List.mem_append.mp z with z | z
          · exact .inl z
          · exact .inr (.inr ⟨i, d, hi, by rw [List.mem_singleton.mp z]; exact h1⟩)
        · exact .inr (.inl z)
        · exact .inr (.inr (ho b z).1)
      have fz : Same (hide H (BB μ G env σ)) (hide H (BB (μ ++ [a]) G (env.set i (.val (.cell w.length))) σ)) := hide_mono (fun _ _ e _ => e) fun b o _ nb z => nb (hle b z)
      have pr : Pre μ (μ ++ [a]) := ⟨[a], rfl⟩
      have nc : a ∉ μ := r.rel.own_nc ⟨i, d, hi, h1⟩
      have len := r.rel.wr.len
      refine ⟨Fz, _, _, μ ++ [a], ⟨⟨⟨by simp [len], ?_, fun n b e g1 g2 => ?_, fun b hb z => ?_, fun b z => r.rel.wr.gd b (z.imp_right fun q => (ho b q).1)⟩, by simp [r.rel.len], fun j e g => ?_, fun j e g => ?_, fun j k e f b g1 g2 g3 g4 => ?_⟩, fun b o g => ?_, r.fz0, ?_, fun b z => r.own b (ho b z).1, r.pz.trans pr⟩, p⟩
      · rw [List.nodup_append]
        exact ⟨r.rel.wr.nd, by simp, fun x hx y hy e => nc (by rw [← List.mem_singleton.mp hy, ← e]; exact hx)⟩
      · show Cont S (hide H (BB (μ ++ [a]) G _ σ)) (μ ++ [a]) H b e
        by_cases hn : n < μ.length
        · rw [List.getElem?_append_left hn] at g1
          rw [List.getElem?_append_left (by omega)] at g2
          exact (r.rel.wr.cont n b e g1 g2).mono fz pr fun _ q => q
        · rw [List.getElem?_append_right (by omega)] at g1
          rw [List.getElem?_append_right (by omega)] at g2
          have hn0 : n - μ.length = 0 := by
            by_cases q : n - μ.length = 0
            · exact q
            · rw [List.getElem?_eq_none (by simp; omega)] at g1; cases g1
          rw [hn0] at g1
          rw [show n - w.length = 0 by omega] at g2
          cases g1
          cases g2
          exact h3.mono fz pr fun _ q => q
      · rcases List.mem_append.mp hb with hb | hb
        · rcases z with z | z
          · exact r.rel.wr.dis b hb (.inl z)
          · exact r.rel.wr.dis b hb (.inr (ho b z).1)
        · rw [List.mem_singleton.mp hb] at z
          rcases z with z | z
          · exact h2 z
          · exact (ho a z).2 rfl
      · rcases En.set_get g with ⟨rfl, q⟩ | ⟨ne, q⟩
        · cases q
          refine ⟨_, h1, ?_⟩
          simp only [Rep]
          exact ⟨a, by rw [len, List.getElem?_append_right (Nat.le_refl _)]; simp, rfl⟩
        · obtain ⟨u, p1, p2⟩ := r.rel.val j e q
          exact ⟨u, p1, Rep.mono fz pr _ _ p2⟩
      · rcases En.set_get g with ⟨rfl, q⟩ | ⟨ne, q⟩
        · cases q
        · obtain ⟨b, q1, q2, q3⟩ := r.rel.own j e q
          exact ⟨b, q1, q2, q3.mono fz pr fun _ q => q⟩
      · rcases En.set_get g1 with ⟨rfl, q⟩ | ⟨ne, q⟩
        · cases q
        · rcases En.set_get g2 with ⟨rfl, q2⟩ | ⟨ne2, q2⟩
          · cases q2
          · exact r.rel.uniq j k e f b q q2 g3 g4
      · obtain ⟨q1, q2, q3⟩ := r.kp b o g
        refine ⟨q1, fun z => ?_, fun z => q3 (ho b z).1⟩
        rcases List.mem_append.mp z with z | z
        · exact q2 z
        · exact q3 ⟨i, d, hi, by rw [List.mem_singleton.mp z]; exact h1⟩
      · obtain ⟨τ, e, hτ⟩ := r.mu
        refine ⟨τ ++ [a], by rw [e, List.append_assoc], fun b hb => ?_⟩
        rcases List.mem_append.mp hb with hb | hb
        · exact hτ b hb
        · rw [List.mem_singleton.mp hb]
          exact r.own a ⟨i, d, hi, h1⟩
theorem t_rai {k : Nat} (h : tS S W T H0 μ0 G (.rai k .nil) Z σ H) : W (S.exv k) none σ H := by
  obtain ⟨Fz, env, w, μ, r, p⟩ := h
  rw [evS] at p
  exact p none σ H μ r.ext0 (r.rel.wr.mono fun b z => .inl z) rfl
end
end R
end
section
set_option Elab.async false
set_option linter.all false
set_option maxRecDepth 100000
/-! RC10: slices with parts, shared things read, sorted. -/
namespace R
open PySem PySem.Spec PyProof.Rows L2
section
variable {S : St0} {W : WX} {T : Tab} {X : Cx} {σ σ' : L2.St} {H H' H1 : Hp} {env env' : En} {w w' w1 : Wd} {μ μ' μ1 : List Addr} {G G' G1 : Addr → Prop} {Q Q' : VK} {a b c : CE}
def tO (S : St0) (W : WX) (T : Tab) (c : CE) : TO := if isNilC c then tNoPart else tPart (tE S W T c)
/-- behind more parts -/
theorem VR.step {k : Kd} {d : D} {v : V} {k2 : Kd} {u : V} (hk : k ≠ .cel) (r : Rel S σ H env w μ G) (e : Ext H μ H' μ') (f : ∀ b, k2 = Kd.own → u = V.ref b → H b = none) (h : VR S σ H env w μ G k d v) : VR S σ H' env w' μ' (gk G k2 u) k d v := h.mono hk r e gk_le (gk_new f)
theorem part_of {f : Option Int → Wd → M (Kd × D)} {P : Option Int → Hp → Prop} (r : Rel S σ H env w μ G)
    (h : PostE S W σ H env μ G Q (R.bnd (if isNilC a then ret none w else R.bnd (evE T a env w) fun y w2 => partD y w2) f))
    (k : ∀ o w1 H1 μ1 G1, Ext H μ H1 μ1 → Rel S σ H1 env w1 μ1 G1 → (∀ b, G b → G1 b) → (∀ b, G1 b → G b ∨ H b = none) → PostE S W σ H1 env μ1 G1 Q (f o w1) → P o H1) : tO S W T a σ H P := by
  unfold tO
  split at h
  · rename_i hn
    rw [if_pos hn]
    exact k none w H μ G (r.ext0 fun _ _ e => e) r (fun _ z => z) (fun _ z => .inl z) h
  · rename_i hn
    rw [if_neg hn]
    have h : PostE S W σ H env μ G Q (R.bnd (evE T a env w) fun y w2 => R.bnd (partD y w2) f) := by
      cases hx : evE T a env w with
      | none => rw [hx] at h; exact h
      | some x => cases x with
        | exc _ _ _ => rw [hx] at h; exact h
        | ok _ _ => rw [hx] at h; exact h
    refine ⟨env, w, μ, G, r, h.bnd r fun y w2 v H1 μ1 e1 r1 v1 f1 p1 => ?_⟩
    obtain ⟨kd, d⟩ := y
    cases d with
    | int i => exact ⟨i, v1.intD r1, k (some i) w2 H1 μ1 _ e1 r1 gk_le (gk_new f1) p1⟩
    | _ => exact False.elim p1
theorem t_slce (h : tE S W T (.slce a b c) σ H Q) : tSl (rSl S) (tE S W T a) (tO S W T b) (tO S W T c) σ H Q := by
  obtain ⟨env, w, μ, G, r, p⟩ := h
  rw [evE] at p
  refine ⟨env, w, μ, G, r, p.bnd1 r fun x w1 v H1 μ1 hk e1 r1 v1 f1 p1 => ?_⟩
  refine part_of r1 p1 fun lo w2 H2 μ2 G2 e2 r2 g2 n2 p2 => ?_
  have v2 := v1.mono (w' := w2) hk r1 e2 g2 n2
  refine part_of r2 p2 fun hi w3 H3 μ3 G3 e3 r3 g3 n3 p3 => ?_
  have v3 := v2.mono (w' := w3) hk r2 e3 g3 n3
  cases hf : slcD x.2 lo hi with
  | none => rw [hf] at p3; exact False.elim p3
  | some k =>
    rw [hf] at p3
    exact ⟨_, μ3, x.2, k, hide_same _ _, v3.sv r3, hf, fun v H' s o => PostE.opv p3 r3 s o⟩
theorem t_rix (h : tE S W T (.rix a b) σ H Q) : tOp (r2v S idxD) (tE S W T a) (tE S W T b) σ H Q := by
  obtain ⟨env, w, μ, G, r, p⟩ := h
  rw [evE] at p
  refine ⟨env, w, μ, G, r, p.bnd1 r fun x w1 v H1 μ1 hk e1 r1 v1 f1 p1 => ⟨env, w1, μ1, _, r1, p1.bnd r1 fun y w2 u H2 μ2 e2 r2 v2 f2 p2 => ?_⟩⟩
  obtain ⟨k, d⟩ := x
  cases k with
  | val =>
    cases d with
    | cell n =>
      have v1' := v1.step (w' := w2) (by simp) r1 e2 f2
      have hv := v1'
      simp only [VR, Rep] at hv
      obtain ⟨b', h1, rfl⟩ := hv
      cases hw : w2[n]? with
      | none => simp only [hw] at p2; exact False.elim p2
      | some ct =>
        simp only [hw] at p2
        cases hf : idxD ct y.2 with
        | none => rw [hf] at p2; exact False.elim p2
        | some d =>
          rw [hf] at p2
          exact ⟨_, μ2, ct, y.2, d, hide_same _ _, (r2.wr.cont n b' ct h1 hw).sv, v2.sv r2, hf, fun v o => PostE.same p2 r2 o⟩
    | _ => exact False.elim p2
  | _ => exact False.elim p2
theorem bl_sorted (A : Agree S X) (hu : X.A.units + 65 < cLine) : CallR X (.builtin "sorted") (r1 S (bltD .sorted)) := by
  intro pins s σ H xs us Q I r h
  obtain ⟨F, μ, d, x, k, rfl, hF, hx, e, q⟩ := h
  obtain ⟨u, rfl, ru⟩ := vals1 r
  have fin : ∀ {ds ys : List D} {vs : List V} {its : List Value}, Reps S F μ ds vs → Vals vs its → Brings X.prog X.w X.A.in1 s u its → (sortBy ds ds).map (fun ys => (Kd.own, D.lst ys)) = some k → wpAny (model X.prog X.w) X.A (call (.builtin "sorted") [u]) (EP X pins σ Q) X.xe s := fun {ds ys vs its} rp rv br e => by
    rw [Option.map_eq_some_iff] at e
    obtain ⟨zs, hz, rfl⟩ := e
    exact sorted_data_of A hu hF I br (isD_of rp rv) hz fun p us hp rp => q _ _ (same_new hp) (OV.lst hF hp rp)
  cases d <;> simp only [bltD] at e <;> try cases e
  · obtain ⟨a, vs, rfl, ha, hvs⟩ := tupV hF hx
    rw [A.K] at ha
    cases ru
    obtain ⟨its, rv, ⟨o, ho, hc, n, hd⟩, hz⟩ := I.tuple ha
    exact fin (ys := []) hvs rv (brings_tuple ho hc hd (by rw [← rv.length]; exact hz)) e
  · obtain ⟨a, vs, rfl, ha, hvs⟩ := hx
    cases ru
    rw [A.K] at ha
    obtain ⟨its, rv, ⟨o, n, ho, hc, _, hd⟩, hz⟩ := I.list ha
    exact fin (ys := []) hvs rv (brings_list ho hc hd (by rw [← rv.length]; exact hz)) e
end
end R
end
section
set_option Elab.async false
set_option linter.all false
set_option maxRecDepth 100000
/-! RC11: sorted(x, key=f), f a def of one's own. -/
namespace R
open PySem PySem.Spec PyProof.Rows L2
section
variable {S : St0} {X : Cx} {σ : L2.St} {H H' : Hp} {pins : List (Addr × Obj)} {s : Shared}
/-- an object of ours is tracked from now on -/
theorem inv_track0 {a : Addr} {o : HO} (J : Inv X pins σ H s) (f0 : H a = none) (f1 : a ≠ X.env.locals) (f4 : ∀ x c, X.env.cells.lookup x = some c → c ≠ a) (f5 : ∀ p ∈ X.pn ++ pins, p.1 ≠ a) (hs : X.s_0.heap.get? a = none) (new : ObjOk X.prog X.w (upd H a o) s.heap a o) : Inv X pins σ (upd H a o) s := by
  have ne : ∀ {b : Addr} {u : HO}, H b = some u → b ≠ a := fun e => ne_of_none e f0
  refine ⟨J.ok, J.os, J.bare, ⟨J.base.keep, J.base.slot, fun b u e n hx => ?_, J.base.there, fun b xs e => ?_, fun b u v e => ?_, fun b ps e => ?_⟩, J.loc, J.cell, ?_, fun x c e => ?_, fun p hp => ?_, fun b u e => ?_, J.len⟩
  · rw [upd_ne (fun z => by rw [z, hs] at e; cases e)]
    exact J.base.free b u e n hx
  · have q := J.base.tups b xs e
    rw [upd_ne (ne q)]; exact q
  · have q := J.base.frzs b u v e
    rw [upd_ne (ne q)]; exact q
  · obtain ⟨m, q⟩ := J.base.tbls b ps e
    exact ⟨m, by rw [upd_ne (ne q)]; exact q⟩
  · rw [upd_ne (fun z => f1 z.symm)]; exact J.free
  · rw [upd_ne (f4 x c e)]; exact J.freeC x c e
  · obtain ⟨q1, q2, q3⟩ := J.pin p hp
    exact ⟨q1, by rw [upd_ne (f5 p hp)]; exact q2, q3⟩
  · by_cases hb : b = a
    · subst hb
      rw [upd_same] at e
      cases e
      exact new
    · rw [upd_ne hb] at e
      refine (J.hok b u e).stay (fun _ _ _ q => q) (fun c q => by rw [upd_ne (ne q)]; exact q) fun c xs q => by rw [upd_ne (ne q)]; exact q
theorem inv_track {a : Addr} {o : HO} (J : Inv X pins σ H s) (hf : FpOk X pins H a) (hs : X.s_0.heap.objs.size ≤ a) (new : ObjOk X.prog X.w (upd H a o) s.heap a o) : Inv X pins σ (upd H a o) s :=
  inv_track0 J hf.1 hf.2.1 hf.2.2.2.2.1 hf.2.2.2.2.2 (Heap.get?_none_of_le hs) new
theorem fpOkG {b : Addr} (I : Inv X pins σ H s) (hg : s.heap.get? b = none) (hl : X.env.locals < b) : FpOk X pins H b := by
  refine ⟨I.hok.gone hg, Nat.ne_of_gt hl, fun hb => ?_, .inr (Nat.le_trans I.ok.above (Nat.le_of_lt hl)), fun x c e z => ?_, fun p hp z => ?_⟩
  · obtain ⟨_, o, ho, _⟩ := I.ok.funs.mem hb
    obtain ⟨o', e⟩ := I.base.there b o ho fun z => I.ok.exfs b z hb
    rw [hg] at e; cases e
  · obtain ⟨v, o, ho, _⟩ := I.cell x c e
    rw [z, hg] at ho; cases ho
  · have := (I.pin p hp).1
    rw [z, hg] at this; cases this
theorem fpAt {b : Addr} (h : FpOk X pins H b) (hn : H' b = none) : FpOk X pins H' b := ⟨hn, h.2⟩
theorem fpNfr {b : Addr} (I : Inv X pins σ H s) (h : FpOk X pins H' b) : b ∉ frs X.stack := fun z => by
  rcases List.mem_cons.mp (I.stkSub b z) with q | q
  · exact h.2.1 q
  · exact h.2.2.1 q
theorem keysLoop_cons {f : D → Option D} {x : D} {xs kz : List D} (h : keysLoop f (x :: xs) = some kz) : ∃ k ks, f x = some k ∧ keysLoop f xs = some ks ∧ kz = k :: ks := by
  simp only [keysLoop] at h
  cases h1 : f x with
  | none => rw [h1] at h; cases h
  | some k =>
    cases h2 : keysLoop f xs with
    | none => rw [h1, h2] at h; cases h
    | some ks =>
      rw [h1, h2] at h
      exact ⟨k, ks, rfl, rfl, (Option.some.inj h).symm⟩
theorem keysLoop_len {f : D → Option D} : ∀ {xs kz : List D}, keysLoop f xs = some kz → kz.length = xs.length
  | [], kz, h => by cases h; rfl
  | x :: xs, kz, h => by
    obtain ⟨k, ks, h1, h2, rfl⟩ := keysLoop_cons h
    simp [keysLoop_len h2]
theorem keysLoop_get {f : D → Option D} : ∀ {xs kz : List D} {i : Nat} {d k : D}, keysLoop f xs = some kz → xs[i]? = some d → kz[i]? = some k → f d = some k
  | [], kz, i, d, k, h, e, _ => by simp at e
  | x :: xs, kz, 0, d, k, h, e, e2 => by
    obtain ⟨k', ks, h1, h2, rfl⟩ := keysLoop_cons h
    simp at e e2
    rw [← e, ← e2]; exact h1
  | x :: xs, kz, i + 1, d, k, h, e, e2 => by
    obtain ⟨k', ks, h1, h2, rfl⟩ := keysLoop_cons h
    exact keysLoop_get (i := i) h2 (by simpa using e) (by simpa using e2)
theorem each_get {α β : Type} {R : α → β → Prop} : ∀ {as : List α} {bs : List β} {i : Nat} {a : α}, PySem.W.EachIs R as bs → as[i]? = some a → ∃ b, bs[i]? = some b ∧ R a b
  | _, _, _, _, .nil, e => by simp at e
  | _, _, 0, _, .cons h _, e => by simp at e; subst e; exact ⟨_, rfl, h⟩
  | _, _, i + 1, a, .cons _ t, e => by
    obtain ⟨b, h1, h2⟩ := each_get (i := i) (a := a) t (by simpa using e)
    exact ⟨b, by simpa using h1, h2⟩
theorem each_zip {S : St0} {F : Hp} {μ : List Addr} : ∀ {us : List Value} {xs kz : List D}, PySem.W.EachIs (IsD S F μ) us xs → kz.length = xs.length → PySem.W.EachIs (fun v (p : D × D) => IsD S F μ v p.2) us (kz.zip xs)
  | _, _, [], .nil, _ => .nil
  | _, _, _ :: _, .nil, e => by simp at e
  | _, _, [], .cons _ _, e => by simp at e
  | _, _, k :: kz, .cons h t, e => .cons h (each_zip t (by simpa using e))
theorem of_each_zip {S : St0} {F : Hp} {μ : List Addr} : ∀ {us : List Value} {ps : List (D × D)}, PySem.W.EachIs (fun v (p : D × D) => IsD S F μ v p.2) us ps → PySem.W.EachIs (IsD S F μ) us (ps.map (·.2))
  | _, _, .nil => .nil
  | _, _, .cons h t => .cons h (of_each_zip t)
theorem sortBy_some {kz xs ys : List D} (h : sortBy kz xs = some ys) : sortable kz = true ∧ xs.length ≤ sizeLine ∧ ys = ((kz.zip xs).mergeSort (PySem.W.dataLe false fun p : D × D => py p.1)).map (·.2) := by
  unfold sortBy at h
  split at h
  · rename_i hz
    rw [Bool.and_eq_true] at hz
    refine ⟨hz.1, szOk_le hz.2, ?_⟩
    obtain ⟨h1, h2, _⟩ := sortable_parts hz.1
    simp only [Option.some.injEq] at h
    rw [← h]
    congr 1
    refine PySem.W.sort_congr fun p hp q hq => ?_
    have mp : p.1 ∈ kz := (List.of_mem_zip hp).1
    have mq : q.1 ∈ kz := (List.of_mem_zip hq).1
    show (!ltD q.1 p.1) = (!PySem.W.dataLt (py q.1) (py p.1))
    rw [ltD_data q.1 p.1 8 8 (List.all_eq_true.mp h1 _ mq) (List.all_eq_true.mp h1 _ mp) (List.all_eq_true.mp (List.all_eq_true.mp h2 _ mq) _ mp)]
  · cases h
/-- the keys, one after another; then the sort -/
theorem sorted_key_of (A : Agree S X) (hu : X.A.units + 65 < cLine) {k : Nat} {f : Addr} {fd : FuncData} {ps : List Str} {g : List D → Wd → M (Kd × D)} (Fn : FnOk X.prog X.w X.K X.mg X.base (L2.CX X.prog X.w) k f fd ps (spF S g)) (hb : Binds X.K fd ps []) (hr : Room k X.A.in1.in1)
    (I : Inv X pins σ H s) {B : Addr → Prop} {F : Hp} {μ : List Addr} (hB : ∀ b, B b → H b ≠ none) (hF : F = hide H B) {x : Value} {us : List Value} {xs ys kz : List D} {Q : VK} (br : Brings X.prog X.w X.A.in1 s x us) (e : PySem.W.EachIs (IsD S F μ) us xs)
    (hk : keysLoop (fun d => if sh 8 d then (match g [d] [] with | some (.ok (.val, k) []) => some k | _ => none) else none) xs = some kz) (hy : sortBy kz xs = some ys)
    (q : ∀ p vs H', Same H H' → H p = none → H' p = some (.lst vs) → Reps S F μ ys vs → Q (.ref p) H') :
    wpAny (model X.prog X.w) X.A (call (.builtin "sorted") [x] [(Str.ofString "key", .ref f)]) (EP X pins σ Q) X.xe s := by
  obtain ⟨hs, hz, rfl⟩ := sortBy_some hy
  obtain ⟨h1, h2, h3⟩ := sortable_parts hs
  have el := e.length
  have lk := keysLoop_len hk
  refine sorted_of br (by omega) (PyProof.Rows.ksk_s1 _ _) (fun _ => PyProof.Rows.ksk_l1 _ _) fun E' h' tk kp => ?_
  rw [PyProof.Rows.ksk_t1]
  -- the new list, emptied; its items held; the keys' list
  have ho : (h'.push (seqObj "list" us.toArray 0)).get? h'.objs.size = some (seqObj "list" us.toArray 0) := Heap.get?_push_size _ rfl
  obtain ⟨e1, ho1⟩ : ∃ e1, ((h'.push (seqObj "list" us.toArray 0)).update h'.objs.size (Obj.mapSeq fun _ => (#[] : Array Value))).get? h'.objs.size = some (seqObj "list" #[] e1) := ⟨_, get?_update_seq ho fun _ => #[]⟩
  unfold PyProof.Rows.ksk_tree
  refine wpAny_bind (listItems_at ho rfl ?_)
  refine wpAny_bind (listUpdate_at ho rfl ?_ (by rw [List.size_toArray]; omega) (Nat.zero_le _))
  refine wpAny_bind (seqEpoch_at ho1 rfl ?_)
  refine wpAny_bind (wpAny_newTuple ?_ (by show us.length ≤ _; omega))
  refine wpAny_bind (wpAny_newList ?_ (Nat.zero_le _))
  refine wpAny_holding ?_
  generalize ha : h'.objs.size = a at *
  generalize hh2 : ((h'.push (seqObj "list" us.toArray 0)).update a (Obj.mapSeq fun _ => (#[] : Array Value))).push (seqObj "tuple" us.toArray 0) = h2' at *
  generalize hkS : h2'.objs.size = kS at *
  have kS1 : kS = a + 2 := by
    rw [← hkS, ← hh2, size_push', Heap.size_update, size_push', ha]
  have old : ∀ b o, s.heap.get? b = some o → (h2'.push (seqObj "list" #[] 0)).get? b = some o := fun b o g => by
    have g1 := kp b o g
    have nb : b ≠ a := by rw [← ha]; exact Nat.ne_of_lt (Heap.lt_size g1)
    refine Heap.get?_push_of_some _ ?_
    rw [← hh2]
    refine Heap.get?_push_of_some _ ?_
    exact ((Heap.SameBut.update _ a _).2 b nb).trans (Heap.get?_push_of_some _ g1)
  have gone : ∀ b, a ≤ b → s.heap.get? b = none := fun b hb => by
    cases z : s.heap.get? b with
    | none => rfl
    | some o =>
      have := Heap.lt_size (kp _ _ z)
      rw [ha] at this
      exact absurd (Nat.lt_of_lt_of_le this hb) (Nat.lt_irrefl _)
  have lA : X.env.locals < a := by
    obtain ⟨m, ⟨o, _, _, h0, _⟩, _⟩ := I.loc
    have := Heap.lt_size (kp _ _ h0)
    rw [ha] at this
    exact this
  have I0 : Inv X pins σ H { s with heap := h2'.push (seqObj "list" #[] 0), toks := tk } := I.kept old
  have fa : FpOk X pins H a := fpOkG I (gone a (Nat.le_refl _)) lA
  have fk : FpOk X pins H kS := fpOkG I (gone kS (by rw [kS1]; exact Nat.le_add_right _ _)) (by rw [kS1]; exact Nat.lt_of_lt_of_le lA (Nat.le_add_right _ _))
  have hka : kS ≠ a := by rw [kS1]; exact Nat.ne_of_gt (Nat.lt_add_of_pos_right (by decide))
  have nk0 : (h2'.push (seqObj "list" #[] 0)).get? kS = some (seqObj "list" #[] 0) := by rw [← hkS]; exact Heap.get?_push_size _ rfl
  have na0 : (h2'.push (seqObj "list" #[] 0)).get? a = some (seqObj "list" #[] e1) := by
    refine Heap.get?_push_of_some _ ?_
    rw [← hh2]
    exact Heap.get?_push_of_some _ ho1
  unfold PyProof.Rows.ksk_rest
  refine wpAny_bind (wpAny_rule ?_)
  first
    | rw [List.forIn_toArray]
    | (rw [← Array.forIn_toList]; simp only [List.toList_toArray])
    | rw [← Array.forIn_toList]
  refine wpAny_bind (PyProof.Rows.ksk_fold (fun i s' => ∃ H' kA e, Inv X pins σ H' s' ∧ Same H H' ∧ H' a = none ∧ H' kS = none ∧ s'.heap.get? kS = some (seqObj "list" kA e) ∧ s'.heap.get? a = some (seqObj "list" #[] e1) ∧ PySem.W.EachIs (IsD S (hide H' B) []) kA.toList (kz.take i)) us 0 _
    ⟨H, #[], 0, I0, Same.refl H, fa.1, fk.1, nk0, na0, by rw [List.take_zero]; exact .nil⟩ ?step ?done)
  case step =>
    rintro j x s' hx ⟨H', kA, e', I', sm, na, nk, gk', ga, ek⟩
    simp only [Nat.zero_add] at ek ⊢
    obtain ⟨d, hd, xv, rx, rd⟩ := each_get e hx
    have hj : j < kz.length := by rw [lk]; exact (List.getElem?_eq_some_iff.mp hd).1
    obtain ⟨kd, hkd⟩ : ∃ k, kz[j]? = some k := ⟨_, List.getElem?_eq_getElem hj⟩
    have ht := keysLoop_get hk hd hkd
    split at ht
    · rename_i hsh
      split at ht
      · rename_i k' hg
        cases ht
        subst hF
        have hB' : ∀ b, B b → H' b ≠ none := fun b hb => by
          cases z : H b with
          | none => exact absurd z (hB b hb)
          | some o => rw [sm b o z]; simp
        have rd' : Rep S (hide H' B) μ d xv := Rep.mono (hide_mono (fun b o h _ => sm b o h) fun _ _ _ h => h) (Pre.refl _) _ _ rd
        refine wpAny_bind (wpAny_attempt (wpAny_mono (key_call (E := fun _ _ => False) A Fn hb hr I' hB' rfl hsh rd' rx hg (Q := fun v s'' => ∃ H'' y, Same H' H'' ∧ Un (frs X.stack) [] H' H'' s'.heap s''.heap ∧ Inv X pins σ H'' s'' ∧ RelV y v ∧ Rep S (hide H'' B) [] kd y) fun y v s'' H'' h1 h2 h3 h4 h5 _ => ⟨H'', y, h1, h2, h3, h4, h5⟩) (fun v s'' hq => ?_) fun _ _ z => z.elim))
        obtain ⟨H'', y, sm2, un, I2, ry, rk⟩ := hq
        try dsimp only
        have fk2 : FpOk X pins H'' kS := fpAt fk (un.free kS _ gk' nk (by simp))
        have fa2 : H'' a = none := un.free a _ ga na (by simp)
        have gk2 := un.keep kS _ gk' nk (fpNfr I2 fk2) (by simp)
        have ga2 := un.keep a _ ga na (fpNfr I2 (fpAt fa fa2)) (by simp)
        have hz2 : kA.size ≤ sizeLine := by
          have h1 := ek.length
          rw [Array.length_toList, List.length_take] at h1
          omega
        have hz3 : kA.size < sizeLine := by
          have h1 := ek.length
          rw [Array.length_toList, List.length_take] at h1
          omega
        have sb := Heap.SameBut.update s''.heap kS (Obj.mapSeq (·.push v))
        obtain ⟨c2, hc2⟩ : ∃ c2, (s''.heap.update kS (Obj.mapSeq (·.push v))).get? kS = some (seqObj "list" (kA.push v) c2) := ⟨_, get?_update_seq gk2 (·.push v)⟩
        refine wpAny_bind (listUpdate_at gk2 rfl ?_ hz2 (Nat.le_trans (Nat.le_of_eq (Array.size_push ..)) (Nat.succ_le_succ hz2)))
        have ej : kz.take (j + 1) = kz.take j ++ [kd] := by rw [List.take_add_one, hkd]; simp
        have ea : (kA.push v).toList = kA.toList ++ [v] := by simp
        refine wpAny_pure ⟨rfl, H'', kA.push v, c2, Inv.turnedL (t' := s''.toks) (ch := [kS]) I2 (fun b o hb g => (sb.2 b (by simpa using hb)).trans g) (fun b hb => by rw [List.mem_singleton.mp hb]; exact fk2), fun b o h => sm2 b o (sm b o h), fa2, fk2.1, hc2, (sb.2 a hka.symm).trans ga2, ?_⟩
        rw [ea, ej]
        refine PySem.W.each_snoc ⟨y, ry, rk⟩ (ek.mono fun u d ⟨z, r1, r2⟩ => ⟨z, r1, Rep.mono (hide_mono (fun b o h _ => sm2 b o h) fun _ _ _ h => h) (Pre.refl _) _ _ r2⟩)
      · cases ht
    · cases ht
  case done =>
    rintro s' ⟨H', kA, e', I', sm, na, nk, gk', ga, ek⟩
    have e3 : kz.take (0 + us.length) = kz := List.take_of_length_le (by omega)
    rw [e3] at ek
    have hsz : kA.size = us.length := by
      have h1 := ek.length
      rw [Array.length_toList] at h1
      omega
    refine wpAny_bind (listItems_at gk' rfl ?_)
    have er := isD_reads A (hide_same H' B) I' h1 ek
    have hk' := PySem.W.each_map (R := fun v d => ∃ as, Reads s'.heap v d as) py er
    have hal := alike_of h1 h2
    refine PySem.W.keyH_end (κ := PySem.W.dataKind s'.heap (kz.map py)) (h₁ := PySem.W.hideAll s'.heap [kS]) (fun b o _ g => PySem.W.of_hideAll _ g) (PySem.W.hideAll_none _ (by simp)) gk' ga hka
      (PySem.W.SortsAt.data (s := s') hk' hal (sortable_of h1 h3) (PySem.W.bound_map fun d hd => ?_)) hsz (by omega) fun h3' tk3 c k3 n3 => ⟨rfl, ?_⟩
    · have := depth_py 8 d (List.all_eq_true.mp h1 d hd)
      show X.A.units + 2 + _ < cLine
      omega
    · have ko : PySem.W.KeyedOut false ((kz.zip xs).map fun p : D × D => py p.1) us (PySem.W.sortVals (PySem.W.dataKind s'.heap (kz.map py)) false kA.toList us) := by
        have em : ((kz.zip xs).map fun p : D × D => py p.1) = kz.map py := by
          rw [show (fun p : D × D => py p.1) = py ∘ Prod.fst from rfl, ← List.map_map, List.map_fst_zip (by omega)]
        rw [em]
        exact ⟨s'.heap, kA.toList, hal, rfl, hk'⟩
      have out := of_each_zip (PySem.W.keyedOut_each (R := fun v (p : D × D) => IsD S F μ v p.2) (fun p : D × D => py p.1) ko (each_zip e lk))
      obtain ⟨vs, rv, vv⟩ := of_isD out
      have J : Inv X pins σ H' { s' with heap := h3', toks := tk3 } := Inv.turnedL (ch := [a, kS]) I' (fun b o hb g => k3 b o (fun z => hb (by simp [z])) (PySem.W.hideAll_get _ g (by simpa using fun z => hb (by simp [z])))) fun b hb => by
        have : b = a ∨ b = kS := by simpa using hb
        rcases this with z | z
        · rw [z]; exact fpAt fa na
        · rw [z]; exact fpAt fk nk
      refine ⟨.ref a, _, inv_track (o := .lst vs) J (fpAt fa na) (Nat.le_trans I.ok.above (Nat.le_of_lt lA)) ⟨?_, _, c, vv, n3⟩, rfl, q a vs _ (fun b o h => by rw [upd_ne (ne_of_none h fa.1)]; exact sm b o h) fa.1 upd_same rv⟩
      rw [rv.length, List.length_map, List.length_mergeSort, List.length_zip]
      omega
end
end R
end
section
set_option Elab.async false
set_option linter.all false
set_option maxRecDepth 100000
/-! RC12: d.keys(), sorted with a key, {}. -/
namespace R
open PySem PySem.Spec PyProof.Rows L2
/-- the view d.keys() at r -/
def vwo (r d : Addr) : HO := .ext fun h => PySem.W.KdlKeysView h r d
/-- what stands for the items xs, for a sort -/
inductive SrcR (S : St0) (F H : Hp) (μ : List Addr) : List D → V → Prop
  | lst {a vs xs} : SqL S.K H a vs → Reps S F μ xs vs → SrcR S F H μ xs (.ref a)
  | tup {a vs xs} : SqT S.K H a vs → Reps S F μ xs vs → SrcR S F H μ xs (.ref a)
  | keys {r d o ks kv wv} : H r = some (vwo r d) → H d = some (dxo d o) → (d == sysModules) = false → DObj S.w o (ks.map kof) kv wv → Reps S F μ ks kv → SrcR S F H μ ks (.ref r)
def rSortK (S : St0) (fa : Addr) (g : List D → Wd → M (Kd × D)) : List V → List V → Hp → VK → Prop := fun vs zs H Q => ∃ B μ x xs kz ys, vs = [x] ∧ zs = [.ref fa] ∧ (∀ b, B b → H b ≠ none) ∧ SrcR S (hide H B) H μ xs x ∧
  keysLoop (fun d => if sh 8 d then (match g [d] [] with | some (.ok (.val, k) []) => some k | _ => none) else none) xs = some kz ∧ sortBy kz xs = some ys ∧ ∀ p vs H', Same H H' → H p = none → H' p = some (.lst vs) → Reps S (hide H B) μ ys vs → Q (.ref p) H'
section
variable {S : St0} {X : Cx} {σ : L2.St} {H H' : Hp} {pins : List (Addr × Obj)} {s : Shared}
theorem vals_of_get : ∀ {vs : List V} {us : List Value}, vs.length = us.length → (∀ (i : Nat) (v : V) (u : Value), vs[i]? = some v → us[i]? = some u → RelV v u) → Vals vs us
  | [], [], _, _ => .nil
  | [], _ :: _, e, _ => by simp at e
  | _ :: _, [], e, _ => by simp at e
  | v :: vs, u :: us, e, h => .cons (h 0 v u rfl rfl) (vals_of_get (by simpa using e) fun i x y a b => h (i + 1) x y (by simpa using a) (by simpa using b))
/-- .. brings its items -/
theorem SrcR.brings (A : Agree S X) {F : Hp} {μ : List Addr} (hF : Same F H) (I : Inv X pins σ H s) (hc : X.A.handled = none) {xs : List D} {x : V} {u : Value} (h : SrcR S F H μ xs x) (r : RelV x u) : ∃ us, Brings X.prog X.w X.A.in1 s u us ∧ PySem.W.EachIs (IsD S F μ) us xs := by
  cases h with
  | lst h1 h2 =>
    cases r
    rw [A.K] at h1
    obtain ⟨its, rv, ⟨o, n, ho, hc, _, hd⟩, hz⟩ := I.list h1
    exact ⟨its, brings_list ho hc hd (by rw [← rv.length]; exact hz), isD_of h2 rv⟩
  | tup h1 h2 =>
    cases r
    rw [A.K] at h1
    obtain ⟨its, rv, ⟨o, ho, hc, n, hd⟩, hz⟩ := I.tuple h1
    exact ⟨its, brings_tuple ho hc hd (by rw [← rv.length]; exact hz), isD_of h2 rv⟩
  | keys h1 h2 hs h3 h4 =>
    cases r
    obtain ⟨es, ep, g1, g2, g3, g4, g5, g6, g7, g8⟩ := h3.raw
    have hv := (I.hok _ _ h1).1
    have hd := (I.hok _ _ h2).1
    refine ⟨es.toList.map (·.key), brings_src (vs := es.toList.map (·.key)) (PySem.KdlSrc.rawKeys (es := es) (ep := ep)) (show X.A.in1.handled = none from hc) ⟨hv, _, hd, g1, g2⟩ g8 (by simp) (fun i v hi ⟨hi', e⟩ => by simp [hi', e]), isD_of h4 (vals_of_get (by simp [g4]) fun i v u e1 e2 => ?_)⟩
    rw [List.getElem?_map, Option.map_eq_some_iff] at e2
    obtain ⟨en, e3, rfl⟩ := e2
    rw [Array.getElem?_toList, Array.getElem?_eq_some_iff] at e3
    obtain ⟨hi, e3⟩ := e3
    obtain ⟨y, e4, e5⟩ := g6 i hi
    rw [e1] at e4
    cases e4
    rw [← e3]
    exact e5
theorem bl_sortk (A : Agree S X) (hu : X.A.units + 65 < cLine) (hc : X.A.handled = none) {k : Nat} {f : Addr} {fd : FuncData} {ps : List Str} {g : List D → Wd → M (Kd × D)} (Fn : FnOk X.prog X.w X.K X.mg X.base (L2.CX X.prog X.w) k f fd ps (spF S g)) (hb : Binds X.K fd ps []) (hr : Room k X.A.in1.in1) :
    CallRK X (.builtin "sorted") [Str.ofString "key"] (rSortK S f g) := by
  intro pins s σ H vs zs us ws Q I r1 r2 h
  obtain ⟨B, μ, x, xs, kz, ys, rfl, rfl, hB, src, hk, hy, q⟩ := h
  obtain ⟨u, rfl, ru⟩ := r1.one
  obtain ⟨w, rfl, rw'⟩ := r2.one
  cases rw'
  obtain ⟨its, br, e⟩ := src.brings A (hide_same _ _) I hc ru
  exact sorted_key_of A hu Fn hb hr I hB rfl br e hk hy q
/-- d.keys() -/
def tKeys (te : TE) : TE := fun σ H Q => te σ H fun x H1 => ∃ d o, x = .ref d ∧ H1 d = some (dxo d o) ∧ (d == sysModules) = false ∧ o.ExactDict ∧ (∃ es ep, o.data = .dict es ep) ∧ ∀ r, H1 r = none → Q (.ref r) (upd H1 r (vwo r d))
theorem pe_keys {e : Expr} {te : TE} {apos cpos : Pos} (he : PE X e te) (hbase : attributeBase e "keys" X.env (eval e X.env) = eval e X.env) (hline : (apos.endLine == cpos.line) = true) : PE X (.Call (.Attribute e "keys" apos) [] [] cpos) (tKeys te) := by
  refine ⟨fun pins s σ H Q I h => ?_⟩
  refine wpAny_Call_method (T := "dict") (id := "dict.keys") hbase rfl hline F.plainAttrs_dict F.slot_dict_keys F.type_dict_keys (thn (he.run pins s σ H _ I h) fun u s1 ⟨x, H1, I1, rx, d, o, ex, hd, hs, hx, ⟨es, ep, hdat⟩, q⟩ => ?_)
  subst ex
  cases rx
  have ho := (I1.hok _ _ hd).1
  have hm : s1.heap.DictRaw d es ep := ⟨o, ho, hx, hdat⟩
  refine ⟨hm.typeIs, fun a ha => ?_, ?_⟩
  · cases ha
    exact ⟨o, ho, hx.2.1⟩
  · show wpAny _ _ (callWith cpos (.builtin "dict.keys") [.ref d] [] []) _ X.xe s1
    refine method_meetsIn F.slot_dict_keys F.entry_dict_keys rfl (PySem.evalArgs_none ⟨rfl, hm.typeIs, F.args_dict_keys_1 _, _, PySem.meets_dict_keys_raw d hs, ⟨es, ep, hm⟩, ?_⟩)
    have hn : H1 s1.heap.objs.size = none := I1.hok.fresh (Nat.le_refl _)
    refine ⟨.ref s1.heap.objs.size, _, I1.laid (o := vwo s1.heap.objs.size d) (t' := s1.toks) (fun b o g => Heap.get?_push_of_some _ g) (Nat.le_refl _) ⟨?_, ⟨_, Heap.get?_push_size _ rfl⟩, fun h1 h2 ⟨o, g, x⟩ k => ⟨o, k o g, x⟩⟩, rfl, q _ hn⟩
    exact ⟨_, Heap.get?_push_size _ rfl, rfl, rfl⟩
end
end R
end
section
set_option Elab.async false
set_option linter.all false
set_option maxRecDepth 100000
/-! RC13: sorted with a key and {}, by the evaluator. -/
namespace R
open PySem PySem.Spec PyProof.Rows L2
section
variable {S : St0} {W : WX} {T : Tab} {X : Cx} {σ σ' : L2.St} {H H' H1 H2 : Hp} {env env' : En} {w w' w1 : Wd} {μ μ' μ1 : List Addr} {G G' G1 B : Addr → Prop} {Q Q' : VK} {a b c : CE}
theorem grow_via {p : Addr} (h1 : Same H1 H2) (h2 : Same H2 H') (hp : H2 p = none) : Same (hide H2 B) (hide (grow (hide H1 B) H1 H') fun b => b = p) := fun b o e => by
  obtain ⟨q1, q2⟩ := of_hide e
  refine hide_of ?_ (ne_of_none q1 hp)
  unfold grow
  cases z : H1 b with
  | none => exact h2 b o q1
  | some u =>
    have := h1 b u z
    rw [q1] at this
    cases this
    exact hide_of z q2
theorem own_list {ys : List D} {p : Addr} {vs : List V} (h : PostE S W σ H1 env μ1 G Q (ret (.own, .lst ys) w1)) (r : Rel S σ H1 env w1 μ1 G) (h1 : Same H1 H2) (h2 : Same H2 H') (hp : H2 p = none) (hl : H' p = some (.lst vs)) (rp : Reps S (hide H2 (BB μ1 G env σ)) μ1 ys vs) : Q (.ref p) H' := by
  have hp1 : H1 p = none := by
    cases z : H1 p with
    | none => rfl
    | some u => rw [h1 p u z] at hp; cases hp
  exact h.opv r (fun b o e => h2 b o (h1 b o e)) ⟨p, rfl, hp1, vs, hl, Reps.mono (grow_via h1 h2 hp) (Pre.refl _) _ _ rp⟩
theorem t_sortk {f : Nat} {fa : Addr} (h : tE S W T (.sortk f false a) σ H Q) : tCKw (rSortK S fa (T.call f)) (tCons (tE S W T a) tNil) (tCons (tC (.ref fa)) tNil) σ H Q := by
  obtain ⟨env, w, μ, G, r, p⟩ := h
  rw [evE] at p
  refine ⟨env, w, μ, G, r, p.bnd r fun x w1 v H1 μ1 e1 r1 v1 f1 p1 => ?_⟩
  have sv := v1.sv r1
  cases hx : srcD false x.2 with
  | none => simp only [hx] at p1; exact False.elim p1
  | some xs =>
    simp only [hx] at p1
    cases hk : keysLoop (keyOne T f) xs with
    | none => simp only [hk] at p1; exact False.elim p1
    | some kz =>
      simp only [hk] at p1
      cases hy : sortBy kz xs with
      | none => simp only [hy] at p1; exact False.elim p1
      | some ys =>
        simp only [hy] at p1
        refine ⟨_, μ1, v, xs, kz, ys, rfl, rfl, fun b hb => r1.nd hb, ?_, hk, hy, fun p vs H' s hp hl rp => own_list p1 r1 (Same.refl _) s hp hl rp⟩
        obtain ⟨k, d⟩ := x
        cases d <;> simp only [srcD] at hx <;> cases hx
        · obtain ⟨b, vs, rfl, q1, q2⟩ := tupV (hide_same _ _) sv
          exact .tup q1 q2
        · obtain ⟨b, vs, rfl, q1, q2⟩ := sv
          exact .lst q1 q2
theorem t_sortkK {f : Nat} {fa : Addr} (h : tE S W T (.sortk f true a) σ H Q) : tCKw (rSortK S fa (T.call f)) (tCons (tKeys (tE S W T a)) tNil) (tCons (tC (.ref fa)) tNil) σ H Q := by
  obtain ⟨env, w, μ, G, r, p⟩ := h
  rw [evE] at p
  refine ⟨env, w, μ, G, r, p.bnd r fun x w1 v H1 μ1 e1 r1 v1 f1 p1 => ?_⟩
  have sv := v1.sv r1
  cases hx : srcD true x.2 with
  | none => simp only [hx] at p1; exact False.elim p1
  | some xs =>
    simp only [hx] at p1
    cases hk : keysLoop (keyOne T f) xs with
    | none => simp only [hk] at p1; exact False.elim p1
    | some kz =>
      simp only [hk] at p1
      cases hy : sortBy kz xs with
      | none => simp only [hy] at p1; exact False.elim p1
      | some ys =>
        simp only [hy] at p1
        obtain ⟨k, d⟩ := x
        cases d <;> simp only [srcD] at hx <;> cases hx
        obtain ⟨d, o, kv, wv, rfl, q1, q2, q3, q4, q5, q6⟩ := sv
        obtain ⟨es, ep, g1, g2, _⟩ := q3.raw
        refine ⟨d, o, rfl, q1, q2, g1, ⟨es, ep, g2⟩, fun r hr => ?_⟩
        have sm := same_new (o := vwo r d) hr
        refine ⟨BB μ1 (gk G k (.ref d)) env σ, μ1, .ref r, xs, kz, ys, rfl, rfl, fun b hb => ?_, .keys upd_same (by rw [upd_ne (ne_of_none q1 hr)]; exact q1) q2 q3 (Reps.mono (hide_mono (fun b o h _ => sm b o h) fun _ _ _ h => h) (Pre.refl _) _ _ q5), hk, hy, fun p vs H' s hp hl rp => own_list p1 r1 sm s hp hl rp⟩
        cases z : H1 b with
        | none => exact absurd z (r1.nd hb)
        | some u => rw [sm b u z]; simp
theorem pe_sortk {f : Addr} {gname : Str} {p p2 kp pos : Pos} {e : Expr} {te : TE} {r : List V → List V → Hp → VK → Prop} (hc : CallRK X (.builtin "sorted") [Str.ofString "key"] r) (hg : Gl X "sorted") (hm : X.mg "sorted" = none) (hv : bootBuiltins "sorted" = some (.builtin "sorted")) (he : PE X e te)
    (hs : starEach [e] X.env = [(false, eval e X.env)]) (gf : Gl X gname) (mf : X.mg gname = some (.ref f)) (hd : (gname == ("__debug__" : Str)) = false) : PE X (.Call (.Name "sorted" p) [e] [⟨some "key", .Name gname p2, kp⟩] pos) (tCKw r (tCons te tNil) (tCons (tC (.ref f)) tNil)) :=
  pe_callBK hc hg hm hv (pa_cons he pa_nil (by rw [hs]; rfl)) (pk_cons (pe_glob gf mf rfl hd) pk_nil) (by decide) (by decide) (by rw [hs]; rfl) (by rw [hs]; rfl) rfl rfl rfl
/-- {} -/
def tDic0 (w : World) : TE := fun _ H Q => ∀ a o, H a = none → (a == sysModules) = false → DObj w o [] [] [] → Q (.ref a) (upd H a (dxo a o))
theorem pe_dic0 {pos : Pos} : PE X (.Dict [] [] pos) (tDic0 X.w) := ⟨fun pins s σ H Q I h => by
  have hn := I.hok.fresh (Nat.le_refl s.heap.objs.size)
  have hg : (s.heap.push { cls := .type "dict", data := .dict #[] }).get? s.heap.objs.size = some { cls := .type "dict", data := .dict #[] } := Heap.get?_push_size _ rfl
  refine wpAny_Dict_empty ⟨.ref s.heap.objs.size, _, I.laid (a := s.heap.objs.size) (o := dxo s.heap.objs.size { cls := .type "dict", data := .dict #[] }) (t' := s.toks) (fun _ _ q => Heap.get?_push_of_some _ q) (Nat.le_refl _) ⟨hg, ⟨_, hg⟩, fun h1 h2 p k => k _ p⟩, rfl, h _ _ hn (beq_eq_false_iff_ne.mpr (Ne.symm (Nat.ne_of_lt I.big))) ?_⟩
  exact ⟨⟨rfl, rfl, rfl⟩, ⟨#[], 0, rfl, rfl, rfl, rfl, fun i e z => by simp at z⟩, List.nodup_nil, Nat.zero_le _⟩⟩
theorem t_dic0 (h : tE S W T (.dic .nil) σ H Q) : tDic0 S.w σ H Q := by
  obtain ⟨env, w, μ, G, r, p⟩ := h
  rw [evE] at p
  exact fun a o hn hs hd => PostE.opv p r (same_new hn) ⟨a, rfl, hn, o, [], [], upd_same, hs, hd, rfl, Reps.nil, Reps.nil⟩
theorem t_rep (h : tE S W T (.rep a b) σ H Q) : tOp rRep (tE S W T a) (tE S W T b) σ H Q := by
  obtain ⟨env, w, μ, G, r, p⟩ := h
  rw [evE] at p
  refine ⟨env, w, μ, G, r, p.bnd1 r fun x w1 v H1 μ1 hk e1 r1 v1 f1 p1 => ⟨env, w1, μ1, _, r1, p1.bnd r1 fun y w2 u H2 μ2 e2 r2 v2 f2 p2 => ?_⟩⟩
  obtain ⟨k, d⟩ := x
  cases k with
  | own =>
    cases d with
    | lst xs =>
      have v1' := v1.step (w' := w2) (by simp) r1 e2 f2
      obtain ⟨q, rfl, _, _, vs, g1, g2⟩ := v1'
      obtain ⟨k2, d2⟩ := y
      cases d2 with
      | int j =>
        by_cases hj : 0 ≤ j ∧ j ≤ 1000 ∧ xs.length ≤ 1000
        · simp only [repD, if_pos hj] at p2
          have hl := g2.length
          refine ⟨q, j, vs, rfl, v2.intD r2, g1, by omega, by omega, ?_, fun p hp => PostE.opv p2 r2 (same_new hp) (OV.lst (hide_same _ _) hp (Reps.rep g2 _))⟩
          rw [hl, sizeLine_eq]
          have a1 : xs.length * j.toNat ≤ 1000 * 1000 := Nat.mul_le_mul hj.2.2 (by omega)
          omega
        · simp only [repD, if_neg hj] at p2
          exact False.elim p2
      | _ => exact False.elim p2
    | _ => exact False.elim p2
  | _ => exact False.elim p2
end
end R
end
section
set_option Elab.async false
set_option linter.all false
set_option maxRecDepth 100000
/-! RC14: comprehensions of two clauses. -/
namespace R
open PySem PySem.Spec PyProof.Rows L2
/-- without D -/
noncomputable def dropA (H : Hp) (D : Addr) : Hp := fun b => if b = D then none else H b
theorem dropA_ne {H : Hp} {D b : Addr} (h : b ≠ D) : dropA H D b = H b := by unfold dropA; rw [if_neg h]
theorem dropA_self {H : Hp} {D : Addr} : dropA H D D = none := by unfold dropA; rw [if_pos rfl]
theorem upd_dropA {H : Hp} {D : Addr} {o : HO} (h : H D = some o) : upd (dropA H D) D o = H := by
  funext b
  by_cases e : b = D
  · subst e; rw [upd_same, h]
  · rw [upd_ne e, dropA_ne e]
theorem hide_dropA {H : Hp} {D : Addr} {B B' : Addr → Prop} (h : ∀ b, B' b ↔ B b ∨ b = D) : hide (dropA H D) B = hide H B' := by
  funext b
  unfold hide
  by_cases e : B b
  · rw [if_pos e, if_pos ((h b).mpr (.inl e))]
  · rw [if_neg e]
    by_cases e2 : b = D
    · subst e2
      rw [if_pos ((h _).mpr (.inr rfl)), dropA_self]
    · rw [if_neg fun z => ((h b).mp z).elim e e2, dropA_ne e2]
section
variable {S : St0} {W : WX} {T : Tab} {σ σ' : L2.St} {H H' H1 : Hp} {env env' : En} {w w' w1 : Wd} {μ μ' μ1 : List Addr} {G G' G1 : Addr → Prop} {Q Q' : VK} {a b c : CE} {R : It → Hp → Prop}
theorem gk_D {D : Addr} (b : Addr) : gk G Kd.own (V.ref D) b ↔ G b ∨ b = D := ⟨fun z => z.imp_right fun y => by injection y.2 with e; exact e.symm, fun z => z.imp_right fun y => ⟨rfl, by rw [y]⟩⟩
theorem bb_D {D : Addr} (b : Addr) : BB μ (gk G Kd.own (V.ref D)) env σ b ↔ BB μ G env σ b ∨ b = D := by
  show (b ∈ μ ∨ (gk G Kd.own (V.ref D) b ∨ ownAt env σ b)) ↔ (b ∈ μ ∨ (G b ∨ ownAt env σ b)) ∨ b = D
  rw [gk_D]
  constructor
  · rintro (z | (z | z) | z)
    · exact .inl (.inl z)
    · exact .inl (.inr (.inl z))
    · exact .inr z
    · exact .inl (.inr (.inr z))
  · rintro ((z | z | z) | z)
    · exact .inl z
    · exact .inr (.inl (.inl z))
    · exact .inr (.inr z)
    · exact .inr (.inl (.inr z))
theorem Rel.drop {D : Addr} (r : Rel S σ H env w μ (gk G Kd.own (V.ref D))) (hG : ¬ G D) : Rel S σ (dropA H D) env w μ G := by
  have hD : gk G Kd.own (V.ref D) D := (gk_D D).mpr (.inr rfl)
  have nm : D ∉ μ := fun z => r.wr.dis D z (.inl hD)
  have no : ¬ ownAt env σ D := fun ⟨i, d, h1, h2⟩ => by
    obtain ⟨a, h3, h4, _⟩ := r.own i d h1
    rw [h2] at h3
    cases h3
    exact h4 hD
  have fz : hide (dropA H D) (BB μ G env σ) = hide H (BB μ (gk G Kd.own (V.ref D)) env σ) := hide_dropA bb_D
  refine ⟨⟨r.wr.len, r.wr.nd, fun n a d h1 h2 => ?_, fun a ha z => ?_, fun b z => ?_⟩, r.len, fun i d h => ?_, fun i d h => ?_, r.uniq⟩
  · have := r.wr.cont n a d h1 h2
    have e : hide (dropA H D) (fun b => b ∈ μ ∨ GO G env σ b) = hide H (fun b => b ∈ μ ∨ GO (gk G Kd.own (V.ref D)) env σ b) := hide_dropA bb_D
    rw [e]
    refine this.mono (fun _ _ z => z) (Pre.refl _) fun o q => ?_
    rw [dropA_ne (show a ≠ D from fun z => nm (by rw [← z]; exact List.mem_of_getElem? h1))]
    exact q
  · exact r.wr.dis a ha (z.imp_left fun y => .inl y)
  · rw [dropA_ne]
    · exact r.wr.gd b (z.imp_left fun y => .inl y)
    · rintro rfl
      exact z.elim hG no
  · obtain ⟨v, h1, h2⟩ := r.val i d h
    exact ⟨v, h1, by rw [fz]; exact h2⟩
  · obtain ⟨a, h1, h2, h3⟩ := r.own i d h
    refine ⟨a, h1, fun z => h2 (.inl z), ?_⟩
    rw [fz]
    refine h3.mono (fun _ _ z => z) (Pre.refl _) fun o q => ?_
    rw [dropA_ne]
    · exact q
    · rintro rfl
      exact h2 hD
theorem Ext.dropT {D : Addr} (e : Ext H μ H' μ') (hD : H D = none) (hm : ∀ b, b ∈ μ → H b ≠ none) : Ext H μ (dropA H' D) μ' :=
  ⟨fun b o h hb => by rw [dropA_ne (ne_of_none h hD)]; exact e.keep b o h hb, fun b hb => by rw [dropA_ne (show b ≠ D from fun z => hm b hb (by rw [z]; exact hD))]; exact e.cel b hb, e.new⟩
def lc2Turn (T : Tab) (vs : List Nat) (tg : Tg) (c : CE) (vs' : List Nat) (tg' : Tg) (it' c' e : CE) (env : En) (x : D) (w2 : Wd) : M (List D) :=
  match bindTg tg x (wipeE env vs) with
  | some env' => bnd (evE T c env' w2) fun b w3 => match b with
    | (_, .bl true) => if noOwn env' vs' then bnd (evI T it' env' w3) fun ys w4 => lcLoop (lcTurn T vs' tg' c' e env') ys w4 else none
    | (_, .bl false) => ret [] w3
    | _ => none
  | none => none
theorem lcLoop2_cons {f : D → Wd → M (List D)} {x : D} {xs : List D} {ys : List D} (h : lcLoop2 f (x :: xs) w = some (.ok ys w')) :
    ∃ r w1 rest, f x w = some (.ok r w1) ∧ lcLoop2 f xs w1 = some (.ok rest w') ∧ ys = r ++ rest := by
  simp only [lcLoop2] at h
  cases h1 : f x w with
  | none => rw [h1] at h; cases h
  | some y => cases y with
    | exc _ _ _ => rw [h1] at h; cases h
    | ok r w1 =>
      rw [h1] at h
      dsimp only at h
      cases h2 : lcLoop2 f xs w1 with
      | none => rw [h2] at h; cases h
      | some z => cases z with
        | exc _ _ _ => rw [h2] at h; cases h
        | ok rest w2 =>
          rw [h2] at h
          simp only [ret, Option.some.injEq, Res.ok.injEq] at h
          exact ⟨r, w1, rest, rfl, h.2 ▸ h2, h.1.symm⟩
theorem lcLoop2_ok {f : D → Wd → M (List D)} : ∀ {xs : List D} {w : Wd}, lcLoop2 f xs w ≠ none → ∃ ys w', lcLoop2 f xs w = some (.ok ys w')
  | [], w, _ => ⟨[], w, rfl⟩
  | x :: xs, w, h => by
    simp only [lcLoop2] at h ⊢
    cases h1 : f x w with
    | none => rw [h1] at h; exact absurd rfl h
    | some y => cases y with
      | exc _ _ _ => rw [h1] at h; exact absurd rfl h
      | ok r w1 =>
        rw [h1] at h
        dsimp only at h ⊢
        cases h2 : lcLoop2 f xs w1 with
        | none => rw [h2] at h; exact absurd rfl h
        | some z => cases z with
          | exc _ _ _ => rw [h2] at h; exact absurd rfl h
          | ok rest w2 => exact ⟨_, _, rfl⟩
/-- one clause's turns around another's -/
theorem lc_itO {J : It} {n : Nat} {Gw : Hp → Prop} {Y : Nat → Hp → V → Hp → Prop} (w : Walk J n Gw Y) {σ : L2.St} {H0 : Hp} {Qd : Hp → Prop} (Pv : Nat → Hp → Prop) {F : (Hp → Prop) → V → Hp → Prop} (h0 : Pv 0 H0) (hG : ∀ i H, i ≤ n → Pv i H → Gw H)
    (hs : ∀ i x H H', i < n → Pv i H → Y i H x H' → F (Pv (i + 1)) x H') (hd : ∀ H, Pv n H → Qd H) :
    ∃ W : Nat → Nat → Hp → Prop, (∃ m, W 0 m H0) ∧ ∀ i m H, W i m H →
      (J.stop i H ∧ Qd H) ∨ (J.go i H ∧ ∃ Nx : Hp → Prop, (∀ H', Nx H' → ∃ m', m' < m ∧ W (i + 1) m' H') ∧ ∀ x H', J.yld i H x H' → F Nx x H') := by
  refine ⟨fun i m H => m = n - i ∧ i ≤ n ∧ Pv i H, ⟨n, by simp, Nat.zero_le _, h0⟩, ?_⟩
  rintro i m H ⟨rfl, hi, p⟩
  have q := hG i H hi p
  by_cases hlt : i < n
  · refine .inr ⟨w.goes i H hlt q, Pv (i + 1), fun H' p' => ⟨n - (i + 1), by omega, rfl, hlt, p'⟩, fun x H' y => hs i x H H' hlt p (w.yields i H x H' hlt q y)⟩
  · have e : i = n := by omega
    subst e
    exact .inl ⟨w.stops H q, hd H p⟩
theorem t_lc2 {vs vs' : List Nat} {tg tg' : Tg} {it it' c' e : CE} {tst tst' : Bool} (hv : ∀ i ∈ tgIs tg, i ∈ vs) (hv' : ∀ i ∈ tgIs tg', i ∈ vs') (hc : tst = false → c = .bl true) (hc' : tst' = false → c' = .bl true) (h : tE S W T (.lc2 vs tg it c vs' tg' it' c' e) σ H Q) :
    tLc2 (fun σ H R => tI S W T it σ H R) (gD S.K tg) (tTs S T c tst) (fun σ H R => tI S WF T it' σ H R) (gD S.K tg') (tTs S T c' tst') (tE S WF T e) vs vs' σ H Q := by
  obtain ⟨env, w, μ, G, r, p⟩ := h
  rw [evE] at p
  by_cases no : noOwn env vs = true
  · rw [if_pos no] at p
    have p : PostE S W σ H env μ G Q (bnd (evI T it env w) fun xs w1 => bnd (lcLoop2 (lc2Turn T vs tg c vs' tg' it' c' e env) xs w1) fun ys w2 => if szOk ys.length then ret (.own, .lst ys) w2 else none) := p
    refine ⟨env, w, μ, G, r, ?_⟩
    cases hx : evI T it env w with
    | none => rw [hx] at p; exact p
    | some x => cases x with
      | exc c q w' => rw [hx] at p; exact p
      | ok xs w1 =>
        rw [hx] at p
        intro J H1 μ1 Ks e1 r1 wk hk hz D hD
        replace p := PostE.back r e1 (fun _ z => z) p
        replace p : PostE S W σ H1 env μ1 G Q (bnd (lcLoop2 (lc2Turn T vs tg c vs' tg' it' c' e env) xs w1) fun ys w2 => if szOk ys.length then ret (.own, .lst ys) w2 else none) := p
        have hl : lcLoop2 (lc2Turn T vs tg c vs' tg' it' c' e env) xs w1 ≠ none := fun z => by rw [z] at p; exact p.elim
        obtain ⟨ys, we, hy⟩ := lcLoop2_ok hl
        rw [hy] at p
        replace p : PostE S W σ H1 env μ1 G Q (if szOk ys.length then ret (.own, .lst ys) we else none) := p
        by_cases sz : szOk ys.length = true
        · rw [if_pos sz] at p
          have sz := szOk_le sz
          have hn : ∀ b, gk G Kd.own (V.ref D) b → G b ∨ H1 b = none := fun b z => ((gk_D b).mp z).imp_right fun y => by rw [y]; exact hD
          have gD' : gk G Kd.own (V.ref D) D := .inr ⟨rfl, rfl⟩
          have dmu : ∀ b, b ∈ μ1 → H1 b ≠ none := r1.wr.cellD
          have nG : ¬ G D := fun z => r1.wr.gd D (.inl z) hD
          refine lc_itO (σ := σ) wk (fun i H2 => ∃ w2 μ2 accD accV rest, Ext H1 μ1 H2 μ2 ∧ Rel S σ H2 env w2 μ2 (gk G Kd.own (V.ref D)) ∧ H2 D = some (.lst accV) ∧ Reps S (hide H2 (BB μ2 (gk G Kd.own (V.ref D)) env σ)) μ2 accD accV ∧
            lcLoop2 (lc2Turn T vs tg c vs' tg' it' c' e env) (xs.drop i) w2 = some (.ok rest we) ∧ accD ++ rest = ys) ?_ ?_ ?_ ?_
          · have ex : Ext H1 μ1 (upd H1 D (.lst [])) μ1 := r1.ext0 (same_new hD)
            exact ⟨w1, μ1, [], [], ys, ex, r1.growG (same_new hD) (fun b z => ((gk_D b).mp z).imp_right fun y => by subst y; exact ⟨hD, by rw [upd_same]; simp⟩), upd_same, Reps.nil, by simpa using hy, rfl⟩
          · rintro i H2 _ ⟨w2, μ2, accD, accV, rest, ex, _⟩ b o hb
            obtain ⟨q1, q2, _⟩ := hk b o hb
            exact ex.keep b o q1 q2
          · rintro i x H2 H3 hi ⟨w2, μ2, accD, accV, rest, ex2, r2, hD2, acc2, loop, eq⟩ ⟨s23, item⟩
            rw [List.drop_eq_getElem_cons hi] at loop
            obtain ⟨rr, w3, rest', ht, loop', er⟩ := lcLoop2_cons loop
            subst er
            have e23 : Ext H2 μ2 H3 μ2 := r2.ext0 s23
            have r3 : Rel S σ H3 env w2 μ2 (gk G Kd.own (V.ref D)) := r2.grow s23
            have ex3 : Ext H1 μ1 H3 μ2 := ex2.trans e23
            have fz : Same (hide H1 (BB μ1 G env σ)) (hide H2 (BB μ2 (gk G Kd.own (V.ref D)) env σ)) := r1.frozenG ex2 hn
            have ri : Rep S (hide H3 (BB μ2 (gk G Kd.own (V.ref D)) env σ)) μ2 xs[i] x := by
              have q := item xs[i] (by simp [hi]) _ fz (hide_same _ _)
              refine Rep.mono (fun b o z => ?_) ex2.pre _ _ q
              unfold grow at z
              cases y : H2 b with
              | none => rw [y] at z; exact hide_of z fun t => r2.nd t y
              | some u =>
                rw [y] at z
                obtain ⟨z1, z2⟩ := of_hide z
                exact hide_of (s23 b o z1) z2
            have own0 := own_wipe (σ := σ) no
            have rw3 : Rel S (L2.wipe σ vs) H3 (wipeE env vs) w2 μ2 (gk G Kd.own (V.ref D)) := r3.wipe vs
            unfold lc2Turn at ht
            cases hb : bindTg tg xs[i] (wipeE env vs) with
            | none => rw [hb] at ht; cases ht
            | some env2 =>
              rw [hb] at ht
              dsimp only at ht
              have rib : Rep S (hide H3 (BB μ2 (gk G Kd.own (V.ref D)) (wipeE env vs) (L2.wipe σ vs))) μ2 xs[i] x := by
                rw [show BB μ2 (gk G Kd.own (V.ref D)) (wipeE env vs) (L2.wipe σ vs) = BB μ2 (gk G Kd.own (V.ref D)) env σ from by unfold BB GO; rw [own_eq own0]]
                exact ri
              refine g_bind rw3 rib hb fun us hu r4 => ?_
              have own1 : ∀ a, ownAt env2 (setAll (L2.wipe σ vs) (tgIs tg) us) a ↔ ownAt env σ a := fun a => (bind_own hb hu (fun i hi => wipe_at (hv i hi)) a).trans (own0 a)
              have bbe : ∀ μ, BB μ (gk G Kd.own (V.ref D)) env2 (setAll (L2.wipe σ vs) (tgIs tg) us) = BB μ (gk G Kd.own (V.ref D)) env σ := fun μ => by unfold BB GO; rw [own_eq own1]
              refine ⟨by rw [wipe_setAll hv, wipe_wipe], ?_⟩
              have back : ∀ {H4 μ4 w4}, Ext H3 μ2 H4 μ4 → Rel S (setAll (L2.wipe σ vs) (tgIs tg) us) H4 env2 w4 μ4 (gk G Kd.own (V.ref D)) →
                  Ext H1 μ1 H4 μ4 ∧ Rel S σ H4 env w4 μ4 (gk G Kd.own (V.ref D)) ∧ H4 D = some (.lst accV) ∧ Reps S (hide H4 (BB μ4 (gk G Kd.own (V.ref D)) env σ)) μ4 accD accV := fun {H4 μ4 w4} e34 r5 => by
                refine ⟨ex3.trans e34, r1.around (ex3.trans e34) r5.wr own1 hn, e34.keep D _ (s23 D _ hD2) fun z => r2.wr.dis D z (.inl gD'), ?_⟩
                exact Reps.mono (r2.frozenG (e23.trans e34) fun b z => .inl z) (e23.trans e34).pre _ _ acc2
              have inner : ∀ {H4 μ4 w4}, Ext H3 μ2 H4 μ4 → Rel S (setAll (L2.wipe σ vs) (tgIs tg) us) H4 env2 w4 μ4 (gk G Kd.own (V.ref D)) → (if noOwn env2 vs' then bnd (evI T it' env2 w4) fun ys w4 => lcLoop (lcTurn T vs' tg' c' e env2) ys w4 else none) = some (.ok rr w3) →
                  tI S WF T it' (setAll (L2.wipe σ vs) (tgIs tg) us) H4 fun J1 H4 => ∃ W1 : Nat → Nat → Hp → Prop, (∃ m, W1 0 m H4) ∧ ∀ j k H, W1 j k H →
                    (J1.stop j H ∧ (∃ w2 μ2 accD accV rest, Ext H1 μ1 H μ2 ∧ Rel S σ H env w2 μ2 (gk G Kd.own (V.ref D)) ∧ H D = some (.lst accV) ∧ Reps S (hide H (BB μ2 (gk G Kd.own (V.ref D)) env σ)) μ2 accD accV ∧
                      lcLoop2 (lc2Turn T vs tg c vs' tg' it' c' e env) (xs.drop (i + 1)) w2 = some (.ok rest we) ∧ accD ++ rest = ys)) ∨ (J1.go j H ∧ ∃ Nx1 : Hp → Prop, (∀ H', Nx1 H' → ∃ k', k' < k ∧ W1 (j + 1) k' H') ∧ ∀ x H', J1.yld j H x H' → gD S.K tg' x (L2.wipe (setAll (L2.wipe σ vs) (tgIs tg) us) vs') H' fun σ3 H5 => L2.wipe σ3 vs' = L2.wipe (setAll (L2.wipe σ vs) (tgIs tg) us) vs' ∧ tTs S T c' tst' σ3 H5 fun b H6 =>
                        if b = true then tE S WF T e σ3 H6 fun y H7 => ∃ acc, H7 D = some (.lst acc) ∧ acc.length < sizeLine ∧ Nx1 (upd H7 D (.lst (acc ++ [y]))) else Nx1 H6) := fun {H4 μ4 w4} e34 r5 hb => by
                by_cases no2 : noOwn env2 vs' = true
                · rw [if_pos no2] at hb
                  obtain ⟨zs, w5, hz1, hz2⟩ := bnd_ok hb
                  refine ⟨env2, w4, μ4, _, r5, ?_⟩
                  rw [hz1]
                  intro J1 H5 μ5 Ks5 e45 r6 wk5 hk5 hz5
                  obtain ⟨b1, b2, b3, b4⟩ := back (e34.trans e45) r6
                  have fzD : hide (dropA H5 D) (BB μ5 G env2 (setAll (L2.wipe σ vs) (tgIs tg) us)) = hide H5 (BB μ5 (gk G Kd.own (V.ref D)) env2 (setAll (L2.wipe σ vs) (tgIs tg) us)) := hide_dropA bb_D
                  have nx := lc_run (H1 := dropA H5 D) (accD0 := accD) (accV0 := accV) (D := D) (J := J1) (Ks := Ks5) (tst := tst') (c := c') (Qd := fun H => ∃ w2 μ2 accD accV rest, Ext H1 μ1 H μ2 ∧ Rel S σ H env w2 μ2 (gk G Kd.own (V.ref D)) ∧ H D = some (.lst accV) ∧ Reps S (hide H (BB μ2 (gk G Kd.own (V.ref D)) env σ)) μ2 accD accV ∧
                      lcLoop2 (lc2Turn T vs tg c vs' tg' it' c' e env) (xs.drop (i + 1)) w2 = some (.ok rest we) ∧ accD ++ rest = ys) no2 hv' hc' (r6.drop nG) dropA_self (by rw [fzD, bbe]; exact b4) (by rw [fzD]; exact wk5) (fun b o q => ?_) ?_ hz2 fun H6 μ6 accV6 ex6 r7 hD6 acc6 => ?_
                  · rw [upd_dropA b3] at nx
                    exact nx
                  · obtain ⟨q1, q2, _, q3⟩ := hk5 b o q
                    refine ⟨?_, q2⟩
                    rw [dropA_ne fun z => q3 (by rw [z]; exact gD')]
                    exact q1
                  · have q := congrArg List.length eq
                    simp only [List.length_append] at q
                    omega
                  · have ex16 : Ext H1 μ1 H6 μ6 := (b1.dropT hD dmu).trans ex6
                    rw [bbe] at acc6
                    exact ⟨w3, μ6, accD ++ rr, accV6, rest', ex16, r1.around ex16 r7.wr own1 hn, hD6, acc6, loop', by rw [List.append_assoc]; exact eq⟩
                · rw [if_neg no2] at hb
                  cases hb
              cases tst with
              | false =>
                have := hc rfl
                subst this
                rw [evE] at ht
                exact inner (.of_same (fun _ _ z => z) r3.wr.cellD) r4 ht
              | true =>
                obtain ⟨b, w4, hb1, hb2⟩ := bnd_ok ht
                refine ⟨env2, w2, μ2, _, r4, ?_⟩
                rw [hb1]
                intro v H4 μ4 e4 r5 vr5 f5
                obtain ⟨k, bd⟩ := b
                cases bd with
                | bl bb =>
                  refine ⟨bb, vr5.blD r5, ?_⟩
                  cases bb with
                  | true => exact inner e4 (r5.mono gk_le) hb2
                  | false =>
                    simp only [ret, Option.some.injEq, Res.ok.injEq] at hb2
                    obtain ⟨rfl, rfl⟩ := hb2
                    obtain ⟨b1, b2, b3, b4⟩ := back e4 (r5.mono gk_le)
                    exact ⟨w4, μ4, accD, accV, rest', b1, b2, b3, b4, loop', eq⟩
                | _ => cases hb2
          · rintro H2 ⟨w2, μ2, accD, accV, rest, ex, r2, hD2, acc2, loop, eq⟩
            rw [List.drop_length] at loop
            simp only [lcLoop2, ret, Option.some.injEq, Res.ok.injEq] at loop
            obtain ⟨rfl, rfl⟩ := loop
            rw [List.append_nil] at eq
            subst eq
            exact p _ H2 μ2 ex r2 ⟨D, rfl, gD', fun z => r1.ownD z hD, accV, hD2, acc2⟩ fun a _ z => by
              have e : D = a := by injection z
              rw [← e]; exact hD
        · rw [if_neg sz] at p
          exact p.elim
  · rw [if_neg no] at p
    exact p.elim
end
end R
end
section
set_option Elab.async false
set_option linter.all false
set_option maxRecDepth 100000
/-! RC15: enumerate(tuple). -/
namespace R
open PySem PySem.Spec PyProof.Rows L2
set_option maxHeartbeats 1000000 in
theorem meets_enumerate_new1 {v : Value} {o : Obj} {H : Heap → Prop} (B : Begins v o H) :
    Meets (Builtin.«enumerate.__new__» ⟨[.type "enumerate", v], []⟩) (fun _ R s => H s.heap ∧
      R (.ok (.ret (.ref (s.heap.push o).objs.size))) { s with heap := (s.heap.push o).push { cls := .type "enumerate", data := .fields #[.none, .bool false, .ref s.heap.objs.size, rawInt 0, .none, .none] } }) :=
  .of_wp fun prog w A R s h => by
    obtain ⟨hp, g, d, tk, os⟩ := s; obtain ⟨h1, h⟩ := h
    have hsub := sub_enumerate
    have q1 : ∀ {A' : Around} {E : Value → Shared → Prop} {Q : Value → Shared → Prop}, Q (.ref hp.objs.size) ⟨hp.push o, g, d, tk, os⟩ → wpAny (model prog w) A' (pyIter v) Q E ⟨hp, g, d, tk, os⟩ :=
      fun q => B.iter prog w _ _ ⟨hp, g, d, tk, os⟩ _ h1 q
    wp_walk using q1
    refine wpAny_stack_any fun st => wpAny_pure ?_
    split
    · rename_i c _ _ _ _ _
      cases (c == Value.type "enumerate")
      · wp_walk using q1
        exact ⟨_, rfl, h⟩
      · wp_walk using q1
        exact ⟨_, rfl, h⟩
    · wp_walk using q1
      exact ⟨_, rfl, h⟩
theorem call_enumerate_tup {prog : Program} {w : World} {A : Around} {E : Value → Shared → Prop} {s : Shared} {t : Addr} {items : Array Value} {Q : Value → Shared → Prop} (ht : s.heap.IsTuple t items)
    (h : ∀ h', IsEnum h' (s.heap.objs.size + 1) s.heap.objs.size 0 .none → h'.IsTupleIter s.heap.objs.size t 0 → h'.objs.size = s.heap.objs.size + 2 →
      (∀ b o, s.heap.get? b = some o → h'.get? b = some o) → Q (.ref (s.heap.objs.size + 1)) { s with heap := h' }) :
    wpAny (model prog w) A (call (.type "enumerate") [.ref t]) Q E s := by
  refine callType_new F.called_enumerate (by decide) (F.typeCall_enumerate_1 _) (F.newCall_enumerate_1 _) (fun obj => F.args_object_init_2 obj _) F.entry_enumerate_new
    (meets_enumerate_new1 (begins_tuple t items)) ⟨ht, ?_⟩
  have hz : (s.heap.push { cls := .type "tuple_iterator", data := .fields #[.ref t, .int 0 0] }).objs.size = s.heap.objs.size + 1 := Heap.size_push ..
  show _ ∧ _
  rw [hz]
  have he : IsEnum ((s.heap.push { cls := .type "tuple_iterator", data := .fields #[.ref t, .int 0 0] }).push
      { cls := .type "enumerate", data := .fields #[.none, .bool false, .ref s.heap.objs.size, rawInt 0, .none, .none] }) (s.heap.objs.size + 1) s.heap.objs.size 0 .none := by
    have := Heap.get?_push_size (s.heap.push { cls := .type "tuple_iterator", data := .fields #[.ref t, .int 0 0] })
      (o := { cls := .type "enumerate", data := .fields #[.none, .bool false, .ref s.heap.objs.size, rawInt 0, .none, .none] }) rfl
    rw [hz] at this; exact this
  refine ⟨⟨_, he, rfl⟩, h _ he ⟨_, Heap.get?_push_of_some _ (Heap.get?_push_size _ rfl), rfl, rfl⟩ (by rw [Heap.size_push, hz]) fun b o x => Heap.get?_push_of_some _ (Heap.get?_push_of_some _ x)⟩
/-- the tuple at a, each item in a new pair -/
def IteT (K : PySem.W.Frag) (a : Addr) : It :=
  ⟨fun i H => ∃ (xs : List V) (x : V), SqT K H a xs ∧ xs[i]? = some x, fun i H v H' => ∃ T x, v = .ref T ∧ H T = none ∧ H' = upd H T (.tup [.int (i : Nat), x]) ∧ ∀ xs, SqT K H a xs → xs[i]? = some x, fun i H => ∃ xs : List V, SqT K H a xs ∧ xs.length ≤ i⟩
theorem turn_enumT {P : Program} {w : World} {K : PySem.W.Frag} {elts : List Expr} {kk : Nat} {tpos : Pos} (a e it : Addr) (ea : e ≠ a) (ai : a ≠ it) (ei : e ≠ it) :
    Turn P w K (.Tuple elts kk tpos) (IteT K a) [e, it] e (fun i h => (∃ old, IsEnum h e it ((i : Nat) : Int) old) ∧ h.IsTupleIter it a i) where
  mem := by simp
  obj := fun i h st b hb => by
    obtain ⟨⟨old, he⟩, ⟨o, ho, hc, hd⟩⟩ := st
    have e' : b = e ∨ b = it := by simpa using hb
    rcases e' with z | z
    · rw [z]; exact ⟨_, he, fun v q => nomatch q⟩
    · rw [z]; exact ⟨o, ho, fun v q => by rw [hd] at q; cases q⟩
  keep := fun i h h' st k => let ⟨⟨old, he⟩, hi⟩ := st; ⟨⟨old, k e (by simp) _ he⟩, hi.at fun o q => k it (by simp) o q⟩
  item := by
    intro X hP hw hK hc i pins s σ H E I hf st hg
    subst hP hw hK
    obtain ⟨⟨old, he⟩, hit⟩ := st
    obtain ⟨xs, x, hq, hx⟩ := hg
    obtain ⟨its, rv, p, hz⟩ := I.tuple hq
    obtain ⟨u, hu, ru⟩ := rv.get hx
    have hel : e < s.heap.objs.size := Heap.lt_size he
    have hil : it < s.heap.objs.size := by obtain ⟨_, q, _⟩ := hit; exact Heap.lt_size q
    have lt : i < its.toArray.size := by simpa using (List.getElem?_eq_some_iff.mp hu).1
    refine wpAny_pyNext_enum_itemD (Draws.tuple (A := X.A.in1) (I.ok.hd hc) it a ai its.toArray) he ⟨hit, show s.heap.IsTuple a its.toArray from p⟩ lt ei (by simp [ei, ea]) fun u' h' tk hu' ho hst hT hsz hk => ?_
    have eu : u' = u := by
      have : its[i]? = some u' := by simpa using hu'
      rw [hu] at this
      exact (Option.some.inj this).symm
    subst eu
    refine ⟨_, rfl, wpAny_letOwnedTupleGo_enum (s := { s with heap := h', toks := tk + 1 }) ho fun h'' he' sb => ?_⟩
    have hT2 : h''.get? s.heap.objs.size = some { cls := .type "tuple", data := .seq #[.int i tk, u'] } := (sb.2 _ (Nat.ne_of_gt hel)).trans hT
    have new : ObjOk X.prog X.w (upd H s.heap.objs.size (.tup [.int (i : Nat), x])) h'' s.heap.objs.size (.tup [.int (i : Nat), x]) :=
      ⟨by show 2 ≤ sizeLine; decide, [.int i tk, u'], .cons ⟨_, rfl⟩ (.cons ru .nil), ⟨_, hT2, rfl, _, rfl⟩⟩
    have I1 : Inv X pins σ (upd H s.heap.objs.size (.tup [.int (i : Nat), x])) { s with heap := h'', toks := tk + 1 } :=
      I.turnedNew (ch := [e, it]) (fun b ob hb q => (sb.2 b (fun z => hb (by simp [z]))).trans (hk b ob (fun z => hb (by simp [z])) (fun z => hb (by simp [z])) q)) hf (Nat.le_refl _) new
    refine ⟨.ref s.heap.objs.size, _, I1, rfl, ⟨_, x, rfl, I.hok.fresh (Nat.le_refl _), rfl, fun ys hy => by rw [I.tuple_inj hy hq]; exact hx⟩, ⟨⟨u', ?_⟩, hst.1.at fun o q => (sb.2 it (Ne.symm ei)).trans q⟩, fun b hb => ?_⟩
    · have e1 : ((i + 1 : Nat) : Int) = (i : Int) + 1 := by omega
      rw [e1]; exact he'
    · have hb' : b < s.heap.objs.size := by
        have e' : b = e ∨ b = it := by simpa using hb
        rcases e' with z | z
        · rw [z]; exact hel
        · rw [z]; exact hil
      rw [upd_ne (Nat.ne_of_lt hb')]
      exact (hf b hb).1
  done := by
    intro X hP hw hK hc i pins s σ H E I hf st hg
    subst hP hw hK
    obtain ⟨⟨old, he⟩, hit⟩ := st
    obtain ⟨xs, hq, hx⟩ := hg
    obtain ⟨its, rv, p, hz⟩ := I.tuple hq
    obtain ⟨f0, f1, f2, f3, f4, f5⟩ := hf it (by simp)
    have hl := rv.length
    have hT : s.TypeIs (.ref e) "enumerate" := ⟨_, he, rfl⟩
    unfold pyNext
    refine wpAny_bind (wpAny_attempt (wpAny_callSpecial?_slot (name := Str.ofString "__next__") hT F.slot_enumerate_next
      (wpAny_call_entry F.slot_enumerate_next hT F.entry_enumerate_next ?_ (F.args_enumerate_next_1 _))))
    show wpAny _ _ (field (.ref e) 2 >>= _) _ _ _
    refine wpAny_bind (wpAny_field he rfl (x := .ref it) rfl ?_)
    refine wpAny_bind (wpAny_nextOf_tuple_end (items := its.toArray) (by simpa using I.ok.hd hc) hit p (by simp; omega) fun h' x eb hx' => ?_)
    obtain ⟨o, ho, hc'⟩ := hx'
    refine wpAny_bind (wpAny_isInstance (T := "StopIteration") (b := true) ⟨o, ho, hc'⟩ isSubtype_stop ?_)
    exact wpAny_pure ⟨rfl, I.turned (t' := s.toks) (fun b o hb q => eb b o hb q) f0 f1 f3 f4 f5⟩
  self := fun A i s Q E st h => let ⟨⟨_, he⟩, _⟩ := st; wpAny_pyIter_enum he h
def iEnumT (K : PySem.W.Frag) (ta : TA) : TI := fun σ H R => ta σ H fun vs H1 => ∃ a xs, vs = [.ref a] ∧ ((SqL K H1 a xs ∧ R (Ite K a) H1) ∨ (SqT K H1 a xs ∧ R (IteT K a) H1))
theorem pi_enumT {X : Cx} {e : Expr} {ta : TA} {p pos tpos : Pos} {elts : List Expr} {kk : Nat} (hg : Gl X "enumerate") (hm : X.mg "enumerate" = none) (ha : PA X [e] ta) (hs : starEach [e] X.env = [(false, eval e X.env)] := by rfl) :
    PI X (.Tuple elts kk tpos) (.Call (.Name "enumerate" p) [e] [] pos) (iEnumT X.K ta) := by
  refine ⟨fun pins s σ H R I h => ?_⟩
  refine Call_ (ld_blt I hg hm boot_enumerate (PyProof.Rows.callWith_type1 (thn (ha.run pos pins s σ H _ I h) fun us s1 ⟨vs, H1, I1, r1, q1⟩ => ?_) hs rfl))
  obtain ⟨a, xs, ex, q⟩ := q1
  subst ex
  cases r1 with
  | cons r rr =>
    cases rr
    cases r
    have fresh : ∀ b, b ∈ [s1.heap.objs.size + 1, s1.heap.objs.size] → FpOk X pins H1 b := fun b hb => by
      have e' : b = s1.heap.objs.size + 1 ∨ b = s1.heap.objs.size := by simpa using hb
      have hle : s1.heap.objs.size ≤ b := by
        rcases e' with z | z
        · rw [z]; exact Nat.le_add_right _ _
        · rw [z]; exact Nat.le_refl _
      exact I1.fpOk hle (I1.hok.fresh hle)
    rcases q with ⟨hq, q⟩ | ⟨hq, q⟩
    · obtain ⟨its, rv, p', hz⟩ := I1.list hq
      refine call_enumerate_list p'.isList fun h' he hit hsz hk => wpAny_pyIter_enum he ?_
      have I2 : Inv X pins σ H1 { s1 with heap := h' } := I1.kept (t' := s1.toks) hk
      exact ⟨s1.heap.objs.size + 1, [s1.heap.objs.size + 1, s1.heap.objs.size], _, _, H1, rfl, I2, turn_enum a (s1.heap.objs.size + 1) s1.heap.objs.size, ⟨⟨.none, he⟩, hit, Nat.succ_ne_self _⟩, fresh, q⟩
    · obtain ⟨its, rv, p', hz⟩ := I1.tuple hq
      have la : a < s1.heap.objs.size := by obtain ⟨o, ho, _⟩ := id p'; exact Heap.lt_size ho
      refine call_enumerate_tup (show s1.heap.IsTuple a its.toArray from p') fun h' he hit hsz hk => wpAny_pyIter_enum he ?_
      have I2 : Inv X pins σ H1 { s1 with heap := h' } := I1.kept (t' := s1.toks) hk
      exact ⟨s1.heap.objs.size + 1, [s1.heap.objs.size + 1, s1.heap.objs.size], _, _, H1, rfl, I2, turn_enumT a (s1.heap.objs.size + 1) s1.heap.objs.size (Nat.ne_of_gt (Nat.lt_succ_of_lt la)) (Nat.ne_of_lt la) (Nat.succ_ne_self _), ⟨⟨.none, he⟩, hit⟩, fresh, q⟩
theorem walk_enumT {K : PySem.W.Frag} {a : Addr} {xs : List V} : Walk (IteT K a) xs.length (fun H => SqT K H a xs) (YPair (fun i => some (.int (i : Nat))) (fun i => xs[i]?)) where
  goes := fun i H hi q => ⟨xs, xs[i], q, by simp [hi]⟩
  stops := fun H q => ⟨xs, q, Nat.le_refl _⟩
  yields := fun i H v H' _ q ⟨T, x, h1, h2, h3, h4⟩ => ⟨T, _, x, h1, h2, h3, rfl, h4 xs q⟩
section
variable {S : St0} {W : WX} {T : Tab} {σ : L2.St} {H : Hp} {a : CE} {R : It → Hp → Prop}
theorem enum_1 {xs : List (Kd × D)} {zs : List D} (h : enumD xs = some zs) : ∃ k ys, (k = Kd.val ∨ k = .own) ∧ zs = enum2 ys ∧ (xs = [(k, .lst ys)] ∨ xs = [(k, .tup ys)]) := by
  unfold enumD at h
  split at h
  all_goals first
    | (have h := Option.some.inj h; exact ⟨_, _, by simp, h.symm, .inl rfl⟩)
    | (have h := Option.some.inj h; exact ⟨_, _, by simp, h.symm, .inr rfl⟩)
    | cases h
theorem t_ie (h : tI S W T (.ie a) σ H R) : iEnumT S.K (tL S W T a) σ H fun J H1 => Bd S.K H1 → R J H1 := by
  obtain ⟨env, w, μ, G, r, p⟩ := h
  rw [evI] at p
  refine evI_l r p fun xs w1 vs H1 μ1 r1 v1 len p1 => ?_
  cases hz : enumD xs with
  | none => rw [hz] at p1; exact p1.elim
  | some zs =>
    rw [hz] at p1
    obtain ⟨k, ys, hk, rfl, e⟩ := enum_1 hz
    have items : ∀ {us : List V}, Reps S (hide H1 (BB μ1 G env σ)) μ1 ys us → ∀ (i : Nat) (z : D) (x y : V), (enum2 ys)[i]? = some z → (some (V.int (i : Nat))) = some x → us[i]? = some y → ∃ a b, z = .tup [a, b] ∧ Rep S (hide H1 (BB μ1 G env σ)) μ1 a x ∧ Rep S (hide H1 (BB μ1 G env σ)) μ1 b y := by
      intro us q2 i z x y h1 h2 h3
      cases h2
      unfold enum2 at h1
      rw [List.getElem?_map, Option.map_eq_some_iff] at h1
      obtain ⟨p, h1, rfl⟩ := h1
      rw [List.getElem?_zipIdx, Option.map_eq_some_iff] at h1
      obtain ⟨d, h4, rfl⟩ := h1
      obtain ⟨d', h6, h7⟩ := q2.getV h3
      rw [h4] at h6
      cases h6
      exact ⟨_, _, rfl, by simp [Rep], h7⟩
    rcases e with rfl | rfl
    · match v1 with
      | .cons v1 .nil =>
        have g1 := v1.flat hk
        simp only [Rep] at g1
        obtain ⟨a1, us, rfl, q1, q2⟩ := g1
        have s1 := Same.sqL (hide_same _ _) q1
        have hl : (enum2 ys).length = us.length := by rw [enum2, List.length_map, List.length_zipIdx, q2.length]
        refine ⟨a1, us, rfl, .inl ⟨s1, fun bd => PostI.frz r1 p1 (wk_pair walk_enum (fun H2 e => Same.sqL e q1) _ hl (items q2)) ?_⟩⟩
        have := bd a1 us (.inl s1)
        omega
    · match v1 with
      | .cons v1 .nil =>
        have g1 := v1.flat hk
        simp only [Rep] at g1
        obtain ⟨a1, us, rfl, q1, q2⟩ := g1
        have s1 := Same.sqT (hide_same _ _) q1
        have hl : (enum2 ys).length = us.length := by rw [enum2, List.length_map, List.length_zipIdx, q2.length]
        refine ⟨a1, us, rfl, .inr ⟨s1, fun bd => PostI.frz r1 p1 (wk_pair walk_enumT (fun H2 e => Same.sqT e q1) _ hl (items q2)) ?_⟩⟩
        have := bd a1 us (.inr s1)
        omega
end
end R
end
section
set_option Elab.async false
set_option linter.all false
set_option maxRecDepth 100000
/-! RS4: sorted(set(xs)), len(set(xs)) over the evaluator's words. -/
namespace R
open PySem PySem.Spec PyProof.Rows L2
theorem all_perm {α : Type} {p : α → Bool} {l l' : List α} (h : l'.Perm l) : l'.all p = l.all p := by
  apply Bool.eq_iff_iff.mpr
  simp only [List.all_eq_true]
  exact ⟨fun k x hx => k x (h.mem_iff.mpr hx), fun k x hx => k x (h.mem_iff.mp hx)⟩
theorem sortable_perm {l l' : List D} (h : l'.Perm l) : sortable l' = sortable l := by
  unfold sortable
  rw [all_perm h, all_perm h, all_perm h, all_perm h]
  have : (fun a => l'.all (alk a)) = fun a => l.all (alk a) := funext fun a => all_perm h
  rw [this]
theorem sortBy_perm {zs ds ys : List D} (anti : ∀ x ∈ zs, ∀ y ∈ zs, ltD x y = false → ltD y x = false → x = y) (h : sortBy zs zs = some ys) (p : ds.Perm zs) : sortBy ds ds = some ys := by
  obtain ⟨h1, h2, h3⟩ := sortBy_self h
  obtain ⟨a1, a2, _⟩ := sortable_parts h1
  have tot : PySem.W.TotalLe (PySem.W.dataLe (β := D) false py) := PySem.W.sortLe_total _ _ _
  have hs : sortBy ds ds = some (ds.mergeSort (PySem.W.dataLe false py)) := by
    have hz : (sortable ds && szOk ds.length) = true := by
      rw [sortable_perm p, h1, p.length_eq]
      simpa [szOk, sizeLine_eq] using h2
    cases e : sortBy ds ds with
    | none => unfold sortBy at e; rw [if_pos hz] at e; cases e
    | some zs' => rw [(sortBy_self e).2.2]
  rw [hs, h3]
  congr 1
  refine List.Perm.eq_of_pairwise (le := fun a b => PySem.W.dataLe false py a b = true) (fun a b ha hb x y => ?_) ?_ ?_ (((List.mergeSort_perm _ _).trans p).trans (List.mergeSort_perm _ _).symm)
  · have ma : a ∈ zs := p.mem_iff.mp ((List.mergeSort_perm _ _).mem_iff.mp ha)
    have mb : b ∈ zs := (List.mergeSort_perm _ _).mem_iff.mp hb
    have f : ∀ u ∈ zs, ∀ v ∈ zs, PySem.W.dataLe false py u v = true → ltD v u = false := fun u hu v hv z => by
      have : (!PySem.W.dataLt (py v) (py u)) = true := z
      rw [ltD_data v u 8 8 (List.all_eq_true.mp a1 _ hv) (List.all_eq_true.mp a1 _ hu) (List.all_eq_true.mp (List.all_eq_true.mp a2 _ hv) _ hu)] at this
      simpa using this
    exact anti a ma b mb (f b mb a ma y) (f a ma b mb x)
  · exact List.pairwise_mergeSort (fun a b c => tot.trans a b c) (fun a b => by rw [Bool.or_eq_true]; exact tot.total a b) _
  · exact List.pairwise_mergeSort (fun a b c => tot.trans a b c) (fun a b => by rw [Bool.or_eq_true]; exact tot.total a b) _
theorem intsD_eq : ∀ {xs : List D} {ns : List Int}, intsD xs = some ns → xs = ns.map D.int
  | [], ns, h => by simp [intsD] at h; subst h; rfl
  | x :: xs, ns, h => by
    cases x <;> simp [intsD] at h
    obtain ⟨r, h1, rfl⟩ := h
    rw [intsD_eq h1]; rfl
theorem tupsI_eq : ∀ {xs : List D} {ks : List (List Int)}, tupsI xs = some ks → xs = ks.map tupI
  | [], ks, h => by simp [tupsI] at h; subst h; rfl
  | x :: xs, ks, h => by
    cases x <;> simp only [tupsI] at h <;> try cases h
    split at h
    · rename_i k ks' e1 e2
      cases h
      rw [tupsI_eq e2, intsD_eq e1]; rfl
    · cases h
theorem ltDs_anti : ∀ {xs ys : List Int}, ltDs (xs.map D.int) (ys.map D.int) = false → ltDs (ys.map D.int) (xs.map D.int) = false → xs = ys
  | [], [], _, _ => rfl
  | [], _ :: _, h, _ => by simp [ltDs] at h
  | _ :: _, [], _, h => by simp [ltDs] at h
  | x :: xs, y :: ys, h1, h2 => by
    simp only [List.map_cons, ltDs, eqD, ltD] at h1 h2
    by_cases e : x = y
    · subst e
      simp only [beq_self_eq_true, if_true] at h1 h2
      rw [ltDs_anti h1 h2]
    · have e' : ¬ y = x := fun z => e z.symm
      simp [e, e'] at h1 h2
      omega
theorem anti_int : ∀ x y : Int, ltD (.int x) (.int y) = false → ltD (.int y) (.int x) = false → D.int x = .int y := fun x y h1 h2 => by
  simp only [ltD, decide_eq_false_iff_not] at h1 h2
  rw [show x = y by omega]
theorem anti_tup : ∀ x y : List Int, ltD (tupI x) (tupI y) = false → ltD (tupI y) (tupI x) = false → tupI x = tupI y := fun x y h1 h2 => by
  unfold tupI at h1 h2 ⊢
  simp only [ltD] at h1 h2
  rw [ltDs_anti h1 h2]
theorem mem_dd {α : Type} [DecidableEq α] {x : α} : ∀ {l : List α}, x ∈ dd l ↔ x ∈ l
  | [] => by simp [dd]
  | y :: l => by
    unfold dd
    split
    · rename_i h
      rw [mem_dd, List.mem_cons]
      exact ⟨.inr, fun z => z.elim (fun e => e ▸ h) id⟩
    · rw [List.mem_cons, List.mem_cons, mem_dd]
theorem nodup_dd {α : Type} [DecidableEq α] : ∀ (l : List α), (dd l).Nodup
  | [] => by simp [dd]
  | y :: l => by
    unfold dd
    split
    · exact nodup_dd l
    · rename_i h
      exact List.nodup_cons.mpr ⟨fun z => h (mem_dd.mp z), nodup_dd l⟩
theorem perm_of_nodup {α : Type} [DecidableEq α] {l m : List α} (h1 : l.Nodup) (h2 : m.Nodup) (h : ∀ x, x ∈ l ↔ x ∈ m) : l.Perm m := by
  rw [List.perm_iff_count]
  intro a
  rw [List.Nodup.count h1, List.Nodup.count h2]
  simp only [h a]
theorem reps_intsN {S : St0} {F : Hp} {μ : List Addr} : ∀ ns : List Int, Reps S F μ (ns.map D.int) (ns.map V.int)
  | [] => Reps.nil
  | n :: ns => Reps.cons (by simp only [Rep]) (reps_intsN ns)
theorem ints_of_reps {S : St0} {F : Hp} {μ : List Addr} : ∀ {ns : List Int} {vs : List V}, Reps S F μ (ns.map D.int) vs → vs = ns.map V.int
  | [], vs, h => by rw [h.inv0]; rfl
  | n :: ns, vs, h => by
    obtain ⟨v, t, rfl, h1, h2⟩ := h.inv
    rw [ints_of_reps h2]
    simp only [Rep] at h1
    rw [h1]; rfl
/-- a set of these values, whose data, in any order, sort to ys; n of them -/
def rMkSet (S : St0) (F : Hp) (μ : List Addr) (zs : List D) (Q : VK) (H : Hp) : Prop := ∀ (a : Addr) (vs : List V) (ds : List D), H a = none → ds.Perm zs → Reps S F μ ds vs → Q (.ref a) (upd H a (sto S.w a vs))
def rSet (S : St0) : List V → Hp → VK → Prop := fun xs H Q => ∃ F μ ds l vs zs, xs = [V.ref l] ∧ Same F H ∧ SqL S.K H l vs ∧ Reps S F μ ds vs ∧ setD ds = some zs ∧ rMkSet S F μ zs Q H
section
variable {S : St0} {X : Cx}
theorem key_refs {F : Hp} {μ : List Addr} : ∀ {ks : List (List Int)} {vs : List V}, Reps S F μ (ks.map tupI) vs → ∃ ps : List (Addr × List Int), vs = ps.map (fun p => V.ref p.1) ∧ ps.map (·.2) = ks ∧ ∀ p ∈ ps, Rep S F μ (tupI p.2) (.ref p.1)
  | [], vs, h => ⟨[], by rw [h.inv0]; rfl, rfl, fun p hp => by cases hp⟩
  | k :: ks, vs, h => by
    obtain ⟨v, t, rfl, h1, h2⟩ := h.inv
    obtain ⟨ps, e1, e2, e3⟩ := key_refs h2
    have h1' := h1
    unfold tupI at h1'
    simp only [Rep] at h1'
    obtain ⟨a, _, rfl, _, _⟩ := h1'
    exact ⟨(a, k) :: ps, by rw [e1]; rfl, by rw [List.map_cons, e2], fun p hp => by
      rcases List.mem_cons.mp hp with rfl | hp
      · exact h1
      · exact e3 p hp⟩
theorem cr_set (A : Agree S X) (hc : X.A.handled = none) (hu : X.A.units + 65 < cLine) : CallR X (.type "set") (rSet S) := by
  intro pins s σ H xs us Q I r h
  obtain ⟨F, μ, ds, l, vs, zs, rfl, hF, hl, hr, hz, q⟩ := h
  unfold setD at hz
  split at hz
  · rename_i ns hi
    split at hz
    · rename_i hn
      cases hz
      have e := intsD_eq hi
      subst e
      have ev := ints_of_reps hr
      subst ev
      refine cr_setI hc pins s σ H _ us Q I r ⟨l, ns, rfl, by rw [← A.K]; exact hl, hn, fun a ks ha nd hm => ?_⟩
      have pm : (ks.map D.int).Perm ((dd ns).map D.int) := (perm_of_nodup nd (nodup_dd _) fun x => by rw [mem_dd, hm]).map _
      have := q a (ks.map V.int) (ks.map D.int) ha pm (reps_intsN ks)
      rw [A.w] at this
      exact this
    · cases hz
  · split at hz
    · rename_i ks hi
      split at hz
      · rename_i hn
        cases hz
        have e := tupsI_eq hi
        subst e
        obtain ⟨ps, rfl, e2, e3⟩ := key_refs hr
        subst e2
        refine cr_setT hc hu pins s σ H _ us Q I r ⟨l, ps, dd (ps.map (·.2)), rfl, by rw [← A.K]; exact hl, fun p hp => ?_, fun p hp => mem_dd.mpr (List.mem_map_of_mem hp), hn, fun a L ha nd hs hm => ?_⟩
        · obtain ⟨a, vs, e, h1, h2⟩ := tupV hF (show Sv S F H μ (.tup (p.2.map D.int)) (.ref p.1) from e3 p hp)
          cases e
          rw [A.K] at h1
          rw [ints_of_reps h2] at h1
          exact h1
        · have pm : (L.map (·.2)).Perm (dd (ps.map (·.2))) := perm_of_nodup nd (nodup_dd _) fun x => by
            rw [mem_dd]
            constructor
            · intro hx
              obtain ⟨y, hy, rfl⟩ := List.mem_map.mp hx
              exact List.mem_map_of_mem (hs y hy)
            · intro hx
              obtain ⟨y, hy, rfl⟩ := List.mem_map.mp hx
              exact hm y hy
          have rp : ∀ L : List (Addr × List Int), (∀ p ∈ L, Rep S F μ (tupI p.2) (.ref p.1)) → Reps S F μ ((L.map (·.2)).map tupI) (L.map fun p => V.ref p.1) := by
            intro L
            induction L with
            | nil => exact fun _ => Reps.nil
            | cons p L ih => exact fun h => Reps.cons (h p List.mem_cons_self) (ih fun x hx => h x (List.mem_cons_of_mem _ hx))
          have := q a (L.map fun p => V.ref p.1) ((L.map (·.2)).map tupI) ha (pm.map _) (rp L fun p hp => e3 p (hs p hp))
          rw [A.w] at this
          exact this
      · cases hz
    · cases hz
theorem setD_anti {ds zs : List D} (h : setD ds = some zs) : ∀ x ∈ zs, ∀ y ∈ zs, ltD x y = false → ltD y x = false → x = y := by
  unfold setD at h
  split at h
  · split at h
    · cases h
      intro x hx y hy h1 h2
      obtain ⟨x, _, rfl⟩ := List.mem_map.mp hx
      obtain ⟨y, _, rfl⟩ := List.mem_map.mp hy
      exact anti_int x y h1 h2
    · cases h
  · split at h
    · split at h
      · cases h
        intro x hx y hy h1 h2
        obtain ⟨x, _, rfl⟩ := List.mem_map.mp hx
        obtain ⟨y, _, rfl⟩ := List.mem_map.mp hy
        exact anti_tup x y h1 h2
      · cases h
    · cases h
/-- sorted(set(xs)) as one -/
theorem r_sortset {x : V} {H : Hp} {Q : VK} (h : r1 S (bltD .sortSet) [x] H Q) : rSet S [x] H fun v H1 => rSortSet S [v] H1 Q := by
  obtain ⟨F, μ, d, x', k, e, hF, hx, hk, q⟩ := h
  cases e
  cases d <;> simp only [bltD] at hk <;> try cases hk
  rename_i ds
  rw [Option.bind_eq_some_iff] at hk
  obtain ⟨zs, h1, h2⟩ := hk
  rw [Option.map_eq_some_iff] at h2
  obtain ⟨ys, h2, rfl⟩ := h2
  obtain ⟨l, vs, rfl, ha, hvs⟩ := hx
  refine ⟨F, μ, ds, l, vs, zs, rfl, hF, ha, hvs, h1, fun a us ds' hn pm rp => ?_⟩
  have sm : Same H (upd H a (sto S.w a us)) := same_new hn
  refine ⟨a, us, F, μ, ds', ys, rfl, upd_same, fun b o e => sm b o (hF b o e), rp, fun ds2 p2 => sortBy_perm (setD_anti h1) h2 (p2.trans pm), fun p vs' hp rp' => ?_⟩
  refine q _ _ (fun b o e => same_new hp b o (sm b o e)) ?_
  have hpH : H p = none := by
    cases z : H p with
    | none => rfl
    | some o => rw [sm p o z] at hp; cases hp
  refine ⟨p, rfl, hpH, vs', upd_same, Reps.mono (fun b o e => ?_) (Pre.refl _) _ _ rp'⟩
  refine hide_of ?_ (ne_of_none (hF b o e) hpH)
  exact grow_old hF b o e
/-- len(set) -/
def rLenSet (S : St0) : List V → Hp → VK → Prop := fun xs H Q => ∃ a vs, xs = [V.ref a] ∧ H a = some (sto S.w a vs) ∧ vs.length ≤ 16777216 ∧ Q (.int (vs.length : Nat)) H
theorem bl_lenset : CallR X (.builtin "len") (rLenSet S) := by
  intro pins s σ H xs us Q I r h
  obtain ⟨a, vs, rfl, ha, hz, q⟩ := h
  rw [Vals.ref1 r]
  obtain ⟨us, rv, o, es, ep, t, ho, hx, hd, hm, hb, hf, ris, hl⟩ := (I.hok a _ ha).1
  have hsz : es.size = vs.length := by rw [rv.length, ← hm]; simp
  exact call_len_set ho hx hd hf (by omega) ⟨.int (vs.length : Nat), H, I.tok _, ⟨_, by rw [hsz]⟩, q⟩
theorem setD_len {ds zs : List D} (h : setD ds = some zs) : zs.length ≤ 1000 := by
  unfold setD at h
  have dl : ∀ {α : Type} [DecidableEq α] (l : List α), (dd l).length ≤ l.length := fun l => by
    induction l with
    | nil => simp [dd]
    | cons x l ih => unfold dd; split <;> simp <;> omega
  split at h
  · split at h
    · cases h
      rename_i ns _ _
      rw [List.length_map]
      have := dl ns
      omega
    · cases h
  · split at h
    · split at h
      · cases h
        rw [List.length_map]; omega
      · cases h
    · cases h
theorem r_lenset {x : V} {H : Hp} {Q : VK} (h : r1 S (bltD .lenSet) [x] H Q) : rSet S [x] H fun v H1 => rLenSet S [v] H1 Q := by
  obtain ⟨F, μ, d, x', k, e, hF, hx, hk, q⟩ := h
  cases e
  cases d <;> simp only [bltD] at hk <;> try cases hk
  rename_i ds
  rw [Option.map_eq_some_iff] at hk
  obtain ⟨zs, h1, rfl⟩ := hk
  obtain ⟨l, vs, rfl, ha, hvs⟩ := hx
  refine ⟨F, μ, ds, l, vs, zs, rfl, hF, ha, hvs, h1, fun a us ds' hn pm rp => ?_⟩
  have e1 : us.length = zs.length := by rw [rp.length, pm.length_eq]
  have := setD_len h1
  refine ⟨a, us, rfl, upd_same, by omega, ?_⟩
  refine q _ _ (same_new hn) ?_
  rw [e1]
  exact OV.int
end
end R
end
section
set_option Elab.async false
set_option linter.all false
set_option maxRecDepth 100000
/-! RS5: slices with a step. -/
namespace R
open PySem PySem.Spec PyProof.Rows L2
theorem ev2_range {α : Type} : ∀ (n : Nat) (xs : List α), xs.length = n → (List.range ((n + 1) / 2)).filterMap (fun k => xs[2 * k]?) = ev2 xs := fun n => by
  induction n using Nat.strongRecOn with
  | ind n ih =>
    intro xs h
    match xs with
    | [] => simp at h; subst h; simp [ev2]
    | [x] => simp at h; subst h; simp [ev2]
    | x :: y :: r =>
      simp at h
      subst h
      rw [show (r.length + 1 + 1 + 1) / 2 = (r.length + 1) / 2 + 1 by omega, List.range_succ_eq_map, List.filterMap_cons]
      have := ih r.length (by omega) r rfl
      simp only [Nat.mul_zero, List.getElem?_cons_zero, List.filterMap_map, ev2]
      rw [← this]
      congr 1
theorem ev2_map {α β : Type} (f : α → β) : ∀ (xs : List α), ev2 (xs.map f) = (ev2 xs).map f
  | [] => rfl
  | [_] => rfl
  | _ :: _ :: r => by simp only [List.map_cons, ev2]; rw [ev2_map f r]
theorem ev2_len {α : Type} : ∀ (xs : List α), (ev2 xs).length ≤ xs.length
  | [] => Nat.le_refl _
  | [_] => Nat.le_refl _
  | _ :: _ :: r => by simp only [ev2, List.length_cons]; have := ev2_len r; omega
theorem fm_congr {α β : Type} {f g : α → Option β} : ∀ {l : List α}, (∀ x ∈ l, f x = g x) → l.filterMap f = l.filterMap g
  | [], _ => rfl
  | x :: l, h => by rw [List.filterMap_cons, List.filterMap_cons, h x List.mem_cons_self, fm_congr fun y hy => h y (List.mem_cons_of_mem _ hy)]
section
variable {S : St0} {F : Hp} {μ : List Addr}
theorem reps_ev2 : ∀ {xs : List D} {vs : List V}, Reps S F μ xs vs → Reps S F μ (ev2 xs) (ev2 vs)
  | [], _, h => by rw [h.inv0]; exact Reps.nil
  | [x], vs, h => by
    obtain ⟨v, t, rfl, h1, h2⟩ := h.inv
    rw [h2.inv0]
    exact Reps.cons h1 Reps.nil
  | x :: y :: r, vs, h => by
    obtain ⟨v, t, rfl, h1, h2⟩ := h.inv
    obtain ⟨v2, t2, rfl, _, h3⟩ := h2.inv
    exact Reps.cons h1 (reps_ev2 h3)
theorem vals_ev2 : ∀ {xs : List V} {vs : List Value}, Vals xs vs → Vals (ev2 xs) (ev2 vs)
  | [], _, h => by cases h; exact .nil
  | [x], vs, h => by cases h with | cons h1 h2 => cases h2; exact .cons h1 .nil
  | x :: y :: r, vs, h => by
    cases h with
    | cons h1 h2 => cases h2 with
      | cons h3 h4 => exact .cons h1 (vals_ev2 h4)
theorem reps_app : ∀ {xs ys : List D} {vs us : List V}, Reps S F μ xs vs → Reps S F μ ys us → Reps S F μ (xs ++ ys) (vs ++ us)
  | [], _, _, _, h, k => by rw [h.inv0]; exact k
  | x :: xs, _, _, _, h, k => by
    obtain ⟨v, t, rfl, h1, h2⟩ := h.inv
    exact Reps.cons h1 (reps_app h2 k)
theorem reps_rev : ∀ {xs : List D} {vs : List V}, Reps S F μ xs vs → Reps S F μ xs.reverse vs.reverse
  | [], _, h => by rw [h.inv0]; exact Reps.nil
  | x :: xs, vs, h => by
    obtain ⟨v, t, rfl, h1, h2⟩ := h.inv
    rw [List.reverse_cons, List.reverse_cons]
    exact reps_app (reps_rev h2) (Reps.cons h1 Reps.nil)
end
section
variable {prog : Program} {w : World} {A : Around} {E : Value → Shared → Prop} {s : Shared}
/-- a slice's step, as a tuple reads it -/
theorem sliceApplied_step {sl : Addr} {vl vu vk : Value} {lo hi : Option Int} {k : Int} {n : Nat} {a b : Int} {Q : Int × Int × Nat → Shared → Prop} (hs : s.heap.IsSliceOf sl vl vu vk) (pl : IsPart vl lo) (pu : IsPart vu hi) (pk : IsPart vk (some k)) (hk : k ≠ 0)
    (ad : Builtin.Slice.sliceAdjust lo hi k (n : Int) = (a, b)) (h : Q (a, k, Builtin.Slice.slicePlaces a b k) s) : wpAny (model prog w) A (Builtin.Slice.sliceApplied (.ref sl) (pure (n : Int))) Q E s := by
  obtain ⟨os, hos, hcs, hds⟩ := id hs
  unfold Builtin.Slice.sliceApplied Builtin.Slice.sliceFields
  refine wpAny_bind (wpAny_bind (wpAny_field hos hds (x := vl) rfl (wpAny_bind (wpAny_field hos hds (x := vu) rfl (wpAny_bind (wpAny_field hos hds (x := vk) rfl (wpAny_pure ?_)))))))
  refine wpAny_bind (HT.slicePart_ pk ?_)
  show wpAny _ _ (if (k == 0) = true then _ else _) _ _ s
  rw [if_neg (by simpa using hk)]
  refine wpAny_bind (HT.slicePart_ pl (wpAny_bind (HT.slicePart_ pu (wpAny_bind (wpAny_pure ?_)))))
  show wpAny _ _ (match Builtin.Slice.sliceAdjust lo hi k (n : Int) with | (lo, hi) => pure (lo, k, Builtin.Slice.slicePlaces lo hi k)) _ _ s
  rw [ad]
  exact wpAny_pure h
theorem getItem_tuple_step {t sl : Addr} {items : Array Value} {vl vu vk : Value} {lo hi : Option Int} {k a b : Int} {out : List Value} {Q : Value → Shared → Prop} (ht : IsTup s.heap t items) (hs : s.heap.IsSliceOf sl vl vu vk) (pl : IsPart vl lo) (pu : IsPart vu hi) (pk : IsPart vk (some k))
    (hk : k ≠ 0) (hk1 : k ≠ 1) (ad : Builtin.Slice.sliceAdjust lo hi k (items.size : Int) = (a, b)) (ho : (List.range (Builtin.Slice.slicePlaces a b k)).filterMap (fun (m : Nat) => items[(a + (m : Int) * k).toNat]?) = out)
    (h : Q (.ref s.heap.objs.size) { s with heap := s.heap.push { cls := .type "tuple", data := .seq out.toArray } })
    (hsz : out.length ≤ sizeLine) : wpAny (model prog w) A (getItem (.ref t) (.ref sl)) Q E s := by
  have htake : sizeOk (.seq out.toArray) := by
    show out.toArray.size ≤ sizeLine
    rw [List.size_toArray]
    exact hsz
  obtain ⟨os, hos, hcs, hds⟩ := id hs
  have hTs : s.TypeIs (.ref sl) "slice" := ⟨os, hos, hcs⟩
  unfold getItem
  try with_reducible refine wpAny_holding ?_
  first | refine wpAny_bind (wpAny_pure ?_) | skip
  refine wpAny_bind (wpAny_sequenceKey ht.typeIs (by decide) ?_)
  refine wpAny_bind (wpAny_callSpecial?_slot (name := Str.ofString "__getitem__") ht.typeIs PyProof.Rows.slot_tuple_getitem
    (wpAny_call_entry PyProof.Rows.slot_tuple_getitem ht.typeIs PyProof.Rows.entry_tuple_getitem ?_ (PyProof.Rows.args_tuple_getitem _ _)))
  show wpAny _ _ (Builtin.Tuple.tupleItemsOf (.ref t) >>= _) _ _ s
  refine wpAny_bind (tupleItemsOf_ ht ?_)
  refine wpAny_bind (wpAny_typeOf hTs ?_)
  rw [if_pos (by decide)]
  refine wpAny_bind (sliceApplied_step hs pl pu pk hk ad ?_)
  have hno : ¬ ((a == 0 && k == 1 && Builtin.Slice.slicePlaces a b k == items.size) = true) := by
    intro q
    rw [Bool.and_eq_true, Bool.and_eq_true] at q
    exact hk1 (eq_of_beq q.1.2)
  show wpAny _ _ (if (a == 0 && k == 1 && Builtin.Slice.slicePlaces a b k == items.size) = true then _ else _) _ _ s
  rw [if_neg hno, ho]
  first
    | exact wpAny_bind (m := Builtin.Tuple.tupleExact _) (wpAny_newObj_type (wpAny_pure ⟨_, rfl, wpAny_pure h⟩) htake)
    | exact wpAny_bind (m := Builtin.Tuple.tupleExact _) (wpAny_newObj_type (wpAny_bind (wpAny_pure (wpAny_pure ⟨_, rfl, wpAny_pure h⟩))) htake)
    | exact wpAny_bind (wpAny_bind (m := Builtin.Tuple.tupleExact _) (wpAny_newObj_type (wpAny_pure (wpAny_pure ⟨_, rfl, wpAny_pure h⟩)) htake))
    | exact wpAny_bind (wpAny_bind (m := Builtin.Tuple.tupleExact _) (wpAny_newObj_type (wpAny_pure ⟨_, rfl, wpAny_pure h⟩) htake))
theorem adj_rev (n : Nat) : Builtin.Slice.sliceAdjust none none (-1) (n : Int) = ((n : Int) - 1, -1) := rfl
theorem out_rev (items : Array Value) : (List.range (Builtin.Slice.slicePlaces ((items.size : Int) - 1) (-1) (-1))).filterMap (fun (m : Nat) => items[((items.size : Int) - 1 + (m : Int) * (-1)).toNat]?) = items.toList.reverse := by
  have e : Builtin.Slice.slicePlaces ((items.size : Int) - 1) (-1) (-1) = items.size := by
    unfold Builtin.Slice.slicePlaces
    rw [if_neg (by decide), show (- -1 : Int) = 1 by decide, Int.ediv_one]
    split <;> omega
  rw [e, ← PySem.W.krv_all items, ← List.filterMap_reverse, ← PySem.W.krv_range, List.filterMap_map]
  apply fm_congr
  intro m hm
  have := List.mem_range.mp hm
  show _ = items[items.size - 1 - m]?
  congr 1
  omega
theorem adj_two (o : Option Int) (d n : Nat) (ho : o = some (d : Int) ∨ (o = none ∧ d = 0)) : Builtin.Slice.sliceAdjust o none 2 (n : Int) = (((min d n : Nat) : Int), (n : Int)) := by
  rcases ho with rfl | ⟨rfl, rfl⟩
  · unfold Builtin.Slice.sliceAdjust
    have h1 : ¬ ((2 : Int) < 0) := by omega
    have h2 : ¬ ((d : Int) < 0) := by omega
    simp only [h1, h2, if_false]
    refine Prod.ext ?_ rfl
    show min (d : Int) (n : Int) = ((min d n : Nat) : Int)
    omega
  · simp [Builtin.Slice.sliceAdjust]
theorem out_two (items : Array Value) (d : Nat) : (List.range (Builtin.Slice.slicePlaces ((min d items.size : Nat) : Int) (items.size : Int) 2)).filterMap (fun (m : Nat) => items[(((min d items.size : Nat) : Int) + (m : Int) * 2).toNat]?) = ev2 (items.toList.drop d) := by
  rw [← ev2_range _ (items.toList.drop d) rfl]
  have e : Builtin.Slice.slicePlaces ((min d items.size : Nat) : Int) (items.size : Int) 2 = ((items.toList.drop d).length + 1) / 2 := by
    unfold Builtin.Slice.slicePlaces
    rw [List.length_drop, Array.length_toList, if_pos (by decide)]
    split <;> omega
  rw [e]
  apply fm_congr
  intro m hm
  have hm := List.mem_range.mp hm
  rw [List.length_drop, Array.length_toList] at hm
  rw [List.getElem?_drop, Array.getElem?_toList]
  congr 1
  omega
end
section
variable {S : St0} {X : Cx} {e : Expr} {te : TE} {lo hi : Option Expr} {st : Expr} {tl th ts : TO} {pos p2 : Pos}
def SlR3 (X : Cx) (r : V → Option Int → Option Int → Option Int → Hp → VK → Prop) : Prop :=
  ∀ (pins : List (Addr × Obj)) (s : Shared) (σ : L2.St) (H : Hp) (x : V) (v vl vu vk : Value) (lo hi k : Option Int) (sl : Addr) (Q : VK), Inv X pins σ H s → RelV x v → s.heap.IsSliceOf sl vl vu vk → IsPart vl lo → IsPart vu hi → IsPart vk k → r x lo hi k H Q →
    ∃ T id, typeLookup (.type T) "__getitem__" = pure (some (.builtin id)) ∧ s.TypeIs v T ∧ wpAny (model X.prog X.w) X.A (getItem v (.ref sl)) (EP X pins σ Q) X.xe s
def tSl3 (r : V → Option Int → Option Int → Option Int → Hp → VK → Prop) (te : TE) (tl th ts : TO) : TE := fun σ H Q => te σ H fun x H1 => tl σ H1 fun l H2 => th σ H2 fun u H3 => ts σ H3 fun k H4 => r x l u k H4 Q
theorem pe_slice3 {r : V → Option Int → Option Int → Option Int → Hp → VK → Prop} (hr : SlR3 X r) (he : PE X e te) (hl : PO X lo tl) (hu : PO X hi th) (hk : PO X (some st) ts) : PE X (.Subscript e (.Slice lo hi (some st) p2) pos) (tSl3 r te tl th ts) := by
  refine ⟨fun pins s σ H Q I h => ?_⟩
  refine Subscript_ (thn (he.run pins s σ H _ I h) fun v s1 ⟨x, H1, I1, r1, q1⟩ => ?_)
  refine wpAny_Slice (thn (hl.run pins s1 σ H1 _ I1 q1) fun vl s2 ⟨l, H2, I2, pl, q2⟩ => thn (hu.run pins s2 σ H2 _ I2 q2) fun vu s3 ⟨u, H3, I3, pu, q3⟩ => thn (hk.run pins s3 σ H3 _ I3 q3) fun vk s4 ⟨k, H4, I4, pk, q4⟩ => ?_)
  have I5 : Inv X pins σ H4 { s4 with heap := s4.heap.push { cls := .type "slice", data := .fields #[vl, vu, vk] } } := I4.kept (t' := s4.toks) fun b ob q => Heap.get?_push_of_some _ q
  obtain ⟨T, id, hT, ht, hg⟩ := hr pins { s4 with heap := s4.heap.push { cls := .type "slice", data := .fields #[vl, vu, vk] } } σ H4 x v vl vu vk l u k s4.heap.objs.size Q I5 r1 (Heap.IsSliceOf.new ..) pl pu pk q4
  show wpAny (model X.prog X.w) X.A (subscriptTail e (.Slice lo hi (some st) p2) v (.ref s4.heap.objs.size)) (EP X pins σ Q) X.xe { s4 with heap := s4.heap.push { cls := .type "slice", data := .fields #[vl, vu, vk] } }
  exact tail_any (ops := [v, .ref s4.heap.objs.size]) ht hT hg (by with_unfolding_all rfl)
/-- the step slices of the core language, on data -/
def rStp (S : St0) (n : Nat) : V → Option Int → Option Int → Option Int → Hp → VK → Prop := fun x lo hi k H Q => ((n = 0 ∧ lo = none ∧ hi = none ∧ k = some (-1)) ∨ ∃ m : Nat, n = m + 1 ∧ (lo = some (m : Int) ∨ (lo = none ∧ m = 0)) ∧ hi = none ∧ k = some 2) ∧
  ∃ F μ d z, Same F H ∧ Sv S F H μ d x ∧ stpD n d = some z ∧ ∀ v H', Same H H' → OV S F H H' μ z v → Q v H'
theorem sl_stp (A : Agree S X) (n : Nat) : SlR3 X (rStp S n) := by
  intro pins s σ H x v vl vu vk lo hi k sl Q I rx hs pl pu pk h
  obtain ⟨hc, F, μ, d, z, hF, hx, e, q⟩ := h
  rcases hc with ⟨rfl, rfl, rfl, rfl⟩ | ⟨m, rfl, ho, rfl, rfl⟩
  · cases d <;> simp [stpD] at e
    · subst e
      rename_i xs
      obtain ⟨a, vs, rfl, ha, hvs⟩ := tupV hF hx
      rw [A.K] at ha
      cases rx
      obtain ⟨its, r, ht, hz⟩ := I.tuple ha
      refine ⟨"tuple", _, PyProof.Rows.slot_tuple_getitem.lookup, ht.typeIs, ?_⟩
      refine getItem_tuple_step ht hs pl pu pk (by decide) (by decide) (adj_rev _) (out_rev _) ?_ (by simp only [List.length_reverse, Array.length_toList, List.size_toArray]; rw [← r.length]; exact hz)
      refine ⟨.ref s.heap.objs.size, _, I.laid (t' := s.toks) (o := .tup vs.reverse) (fun b ob q => Heap.get?_push_of_some _ q) (Nat.le_refl _) ?_, rfl, q _ _ (same_new (I.hok.fresh (Nat.le_refl _))) (OV.tup hF (I.hok.fresh (Nat.le_refl _)) (reps_rev hvs))⟩
      exact ⟨by rw [List.length_reverse]; exact hz, _, r.reverse, IsTup.new _ _⟩
    · subst e
      rename_i xs
      obtain ⟨a, vs, rfl, ha, hvs⟩ := hx
      rw [A.K] at ha
      cases rx
      obtain ⟨its, r, ht, hz⟩ := I.list ha
      have hlen := r.length
      refine ⟨"list", _, PySem.slot_list_getitem.lookup, ht.isList.typeIs, ?_⟩
      refine wpAny_getItem_list_slice ht.isList hs pl pu pk (by decide) ?_ (by rw [List.size_toArray]; omega)
      rw [PySem.W.krv_pick]
      refine ⟨.ref s.heap.objs.size, _, I.laid (t' := s.toks) (o := .lst vs.reverse) (fun b ob q => Heap.get?_push_of_some _ q) (Nat.le_refl _) ?_, rfl, q _ _ (same_new (I.hok.fresh (Nat.le_refl _))) (OV.lst hF (I.hok.fresh (Nat.le_refl _)) (reps_rev hvs))⟩
      exact ⟨by rw [List.length_reverse]; exact hz, _, 0, r.reverse, Heap.get?_push_size _ rfl⟩
  · cases d <;> simp [stpD] at e
    subst e
    rename_i xs
    obtain ⟨a, vs, rfl, ha, hvs⟩ := tupV hF hx
    rw [A.K] at ha
    cases rx
    obtain ⟨its, r, ht, hz⟩ := I.tuple ha
    have hlen := r.length
    have l1 : ∀ {α : Type} (l : List α), (ev2 (l.drop m)).length ≤ l.length := fun l => Nat.le_trans (ev2_len _) (by rw [List.length_drop]; omega)
    refine ⟨"tuple", _, PyProof.Rows.slot_tuple_getitem.lookup, ht.typeIs, ?_⟩
    refine getItem_tuple_step ht hs pl pu pk (by decide) (by decide) (adj_two lo m _ ho) (out_two _ _) ?_ (by have := l1 its; simp only [List.toList_toArray]; omega)
    refine ⟨.ref s.heap.objs.size, _, I.laid (t' := s.toks) (o := .tup (ev2 (vs.drop m))) (fun b ob q => Heap.get?_push_of_some _ q) (Nat.le_refl _) ?_, rfl, q _ _ (same_new (I.hok.fresh (Nat.le_refl _))) (OV.tup hF (I.hok.fresh (Nat.le_refl _)) (reps_ev2 (hvs.drop _)))⟩
    exact ⟨by have := l1 vs; omega, _, vals_ev2 (r.drop m), IsTup.new _ _⟩
variable {W : WX} {T : Tab} {a : CE} {σ : L2.St} {H : Hp} {Q : VK}
theorem t_stp {n : Nat} (h : tE S W T (.rev2 a n) σ H Q) : tE S W T a σ H fun x H1 => r1 S (stpD n) [x] H1 Q := by
  obtain ⟨env, w, μ, G, r, p⟩ := h
  rw [evE] at p
  exact t_one r p
end
section
variable {S : St0} {X : Cx} {W : WX} {T : Tab} {a : CE} {e : Expr}
theorem pe_stp0 {k : Nat} {p1 p2 p3 q : Pos} (A : Agree S X) (he : PE X e (tE S W T a)) : PE X (.Subscript e (.Slice none none (some (.UnaryOp .USub (.Constant (.int 1) k p1) p2)) p3) q) (tE S W T (.rev2 a 0)) := by
  have hst : PO X (some (.UnaryOp .USub (.Constant (.int 1) k p1) p2)) (tPart (tUn (rU fun i => .int (-i)) (tC (.int 1)))) := po_some (pe_un un_neg pe_int)
  have := pe_slice3 (pos := q) (p2 := p3) (sl_stp A 0) he po_none po_none hst
  refine ⟨fun pins s σ H Q I h => this.run pins s σ H Q I (tE.imp (t_stp h) fun x H1 z => ⟨1, rfl, -1, rfl, .inl ⟨rfl, rfl, rfl, rfl⟩, ?_⟩)⟩
  obtain ⟨F, μ, d, x', k, e0, h1, h2, h3, h4⟩ := z
  cases e0
  exact ⟨F, μ, d, k, h1, h2, h3, h4⟩
theorem pe_stp1 {k : Nat} {p1 p2 q : Pos} (A : Agree S X) (he : PE X e (tE S W T a)) : PE X (.Subscript e (.Slice none none (some (.Constant (.int 2) k p1)) p2) q) (tE S W T (.rev2 a 1)) := by
  have hst : PO X (some (.Constant (.int 2) k p1)) (tPart (tC (.int 2))) := po_some pe_int
  have := pe_slice3 (pos := q) (p2 := p2) (sl_stp A 1) he po_none po_none hst
  refine ⟨fun pins s σ H Q I h => this.run pins s σ H Q I (tE.imp (t_stp h) fun x H1 z => ⟨2, rfl, .inr ⟨0, rfl, .inr ⟨rfl, rfl⟩, rfl, rfl⟩, ?_⟩)⟩
  obtain ⟨F, μ, d, x', k, e0, h1, h2, h3, h4⟩ := z
  cases e0
  exact ⟨F, μ, d, k, h1, h2, h3, h4⟩
theorem pe_stp2 {m k k2 : Nat} {p p2 p3 q : Pos} (A : Agree S X) (he : PE X e (tE S W T a)) : PE X (.Subscript e (.Slice (some (.Constant (.int (m : Int)) k p)) none (some (.Constant (.int 2) k2 p2)) p3) q) (tE S W T (.rev2 a (m + 1))) := by
  have hst : PO X (some (.Constant (.int 2) k2 p2)) (tPart (tC (.int 2))) := po_some pe_int
  have hlo : PO X (some (.Constant (.int (m : Int)) k p)) (tPart (tC (.int (m : Int)))) := po_some pe_int
  have := pe_slice3 (pos := q) (p2 := p3) (sl_stp A (m + 1)) he hlo po_none hst
  refine ⟨fun pins s σ H Q I h => this.run pins s σ H Q I (tE.imp (t_stp h) fun x H1 z => ⟨m, rfl, 2, rfl, .inr ⟨m, rfl, .inl rfl, rfl, rfl⟩, ?_⟩)⟩
  obtain ⟨F, μ, d, x', k, e0, h1, h2, h3, h4⟩ := z
  cases e0
  exact ⟨F, μ, d, k, h1, h2, h3, h4⟩
end
end R
end
section
set_option Elab.async false
set_option linter.all false
set_option maxRecDepth 100000
/-! RK1: a core term against the row's own syntax. -/
namespace R
open PySem PySem.Spec PyProof.Rows L2

structure KC where
  N : List Str
  sc : Scope
  fb : Str → Bool
  nm : List (Str × Nat)
  gl : List (Str × Nat)
  exs : List (Str × Nat)
  cls : List (Str × Nat)
def KC.blk (K : KC) (scope : Scope) : KC := { K with sc := relS scope K.sc, fb := fun x => scope.names.lookup x == some .cell }
def glb (K : KC) (x : Str) : Bool := decide (K.sc.names.lookup x = some .globalImplicit)
def visb (K : KC) (x : Str) : Bool := decide (K.sc.names.lookup x = some .local) || decide (K.sc.names.lookup x = some .cell) || decide (K.sc.names.lookup x = some .free)
def locb (K : KC) (x : Str) : Bool := (decide (K.sc.names.lookup x = some .local) || decide (K.sc.names.lookup x = some .cell)) && (K.fb x || decide (K.sc.names.lookup x = some .local))
def nameOk (x : Str) : Bool := !(x == ("__debug__" : Str)) && !(x == ("__classdict__" : Str))

/-! ### views of the syntax -/
def asName : Expr → Option Str
  | .Name x _ => some x
  | _ => none
def asConst : Expr → Option Const
  | .Constant c _ _ => some c
  | _ => none
def asBin : Expr → Option (Expr × Operator × Expr)
  | .BinOp l o r _ => some (l, o, r)
  | _ => none
def asUn : Expr → Option (UnaryOp × Expr)
  | .UnaryOp o r _ => some (o, r)
  | _ => none
def asCmp1 : Expr → Option (Expr × CmpOp × Expr)
  | .Compare l [o] [r] _ => some (l, o, r)
  | _ => none
def asCmp2 : Expr → Option (Expr × CmpOp × CmpOp × Expr × Expr)
  | .Compare l [o, o'] [m, r] _ => some (l, o, o', m, r)
  | _ => none
/-- the first, the rest as one -/
def asAnd : Expr → Option (Expr × Expr)
  | .BoolOp .And [x, y] _ => some (x, y)
  | .BoolOp .And (x :: y :: z :: r) p => some (x, .BoolOp .And (y :: z :: r) p)
  | _ => none
def asOr : Expr → Option (Expr × Expr)
  | .BoolOp .Or [x, y] _ => some (x, y)
  | .BoolOp .Or (x :: y :: z :: r) p => some (x, .BoolOp .Or (y :: z :: r) p)
  | _ => none
def asIf : Expr → Option (Expr × Expr × Expr)
  | .IfExp c a b _ => some (c, a, b)
  | _ => none
def asTup : Expr → Option (List Expr)
  | .Tuple es _ _ => some es
  | _ => none
def asLst : Expr → Option (List Expr)
  | .List es _ => some es
  | _ => none
def asDic0 : Expr → Bool
  | .Dict [] [] _ => true
  | _ => false
def isSlice : Expr → Bool
  | .Slice _ _ _ _ => true
  | _ => false
def asSub : Expr → Option (Expr × Expr)
  | .Subscript a i _ => if isSlice i then none else some (a, i)
  | _ => none
def asSlc : Expr → Option (Expr × Option Expr × Option Expr)
  | .Subscript a (.Slice lo hi none _) _ => some (a, lo, hi)
  | _ => none
def asCall : Expr → Option (Str × List Expr)
  | .Call (.Name x _) es [] _ => some (x, es)
  | _ => none
def plainO : Expr → Bool
  | .Call (.Name _ _) [] [] _ => false
  | _ => true
/-- o.name(), on one line -/
def asMeth0 : Expr → Option (Expr × Str)
  | .Call (.Attribute o name apos) [] [] cpos => if plainO o && apos.endLine == cpos.line then some (o, name) else none
  | _ => none
/-- a[::-1], a[n::2] -/
def asStp : Expr → Option (Expr × Nat)
  | .Subscript a (.Slice none none (some (.UnaryOp .USub (.Constant (.int 1) _ _) _)) _) _ => some (a, 0)
  | .Subscript a (.Slice none none (some (.Constant (.int 2) _ _)) _) _ => some (a, 1)
  | .Subscript a (.Slice (some (.Constant (.int n) _ _)) none (some (.Constant (.int 2) _ _)) _) _ => if 0 ≤ n then some (a, n.toNat + 1) else none
  | _ => none
/-- set(e) -/
def asSet : Expr → Option Expr
  | .Call (.Name x _) [e] [] _ => if x == ("set" : Str) then some e else none
  | _ => none
def isStarred : Expr → Bool
  | .Starred _ _ => true
  | _ => false
def asMeth1 : Expr → Option (Expr × Str × Expr)
  | .Call (.Attribute o name apos) [e] [] cpos => if plainO o && apos.endLine == cpos.line && !isStarred e then some (o, name, e) else none
  | _ => none
def asSortk : Expr → Option (Expr × Str)
  | .Call (.Name x _) [e] [⟨some k, .Name g _, _⟩] _ => if x == ("sorted" : Str) && k == ("key" : Str) && !isStarred e then some (e, g) else none
  | _ => none
def asLc : Expr → Option (Expr × Expr × Expr × List Expr × Scope)
  | .ListComp elt [⟨t, it, ifs, a⟩] sc _ => if a == 0 then some (elt, t, it, ifs, sc) else none
  | _ => none
structure Lc2V where
  elt : Expr
  t : Expr
  it : Expr
  ifs : List Expr
  t1 : Expr
  it1 : Expr
  ifs1 : List Expr
  sc : Scope
def asLc2 : Expr → Option Lc2V
  | .ListComp elt [⟨t, it, ifs, a⟩, ⟨t1, it1, ifs1, a1⟩] sc _ => if a == 0 && a1 == 0 then some ⟨elt, t, it, ifs, t1, it1, ifs1, sc⟩ else none
  | _ => none
def notSetE : Expr → Bool
  | .Set _ _ _ => false
  | _ => true
def isTupE : Expr → Bool
  | .Tuple _ _ _ => true
  | _ => false
/-- its test is its value's truth -/
def plainT : Expr → Bool
  | .Name _ _ | .Call _ _ _ _ | .Constant _ _ _ | .Subscript _ _ _ | .Attribute _ _ _ => true
  | _ => false
def bname : Blt → Str
  | .len => "len" | .tuple => "tuple" | .list => "list" | .all => "all" | .any => "any" | .sorted => "sorted" | .sum => "sum" | .abs => "abs" | _ => ""
def ownL (K : KC) (vs : List Nat) : List (Str × Nat) := vs.map fun v => (K.N.getD v "", v)
def chkNames (K : KC) : List Nat → List Expr → Bool
  | [], [] => true
  | i :: is, e :: es => (match asName e with | some x => decide (K.N[i]? = some x) && locb K x | none => false) && chkNames K is es
  | _, _ => false
def chkTg (K : KC) : Tg → Expr → Bool
  | .one i, e => (match asName e with | some x => decide (K.N[i]? = some x) && locb K x | none => false)
  | .many is, e => (match asTup e with | some es => chkNames K is es | none => false)
def isTrueC : CE → Bool
  | .bl true => true
  | _ => false

mutual
def chkX : CE → Bool → KC → Expr → Bool
  | .dead, _, _, _ => true
  | .var i, t, K, e => (!t || plainT e) && (match asName e with | some x => decide (K.N[i]? = some x) && visb K x && nameOk x | none => false)
  | .int i, t, _, e => (!t || plainT e) && decide (asConst e = some (.int i))
  | .str x, t, _, e => (!t || plainT e) && decide (asConst e = some (.str x))
  | .bl b, t, _, e => (!t || plainT e) && decide (asConst e = some (.bool b))
  | .non, t, _, e => (!t || plainT e) && decide (asConst e = some .none)
  | .gl g, t, K, e => (!t || plainT e) && (match asName e with | some x => glb K x && nameOk x && decide (K.gl.lookup x = some g) | none => false)
  | .fn f, t, K, e => (!t || plainT e) && (match asName e with | some x => glb K x && nameOk x && decide (K.nm.lookup x = some f) | none => false)
  | .neg a, t, K, e => !t && (match asUn e with | some (.USub, x) => chkX a false K x | _ => false)
  | .bin o a b, t, K, e => !t && (match asBin e with | some (l, op, r) => decide (op = bop o) && chkX a false K l && chkX b false K r | none => false)
  | .rep a b, t, K, e => !t && (match asBin e with | some (l, op, r) => decide (op = .Mult) && chkX a false K l && chkX b false K r | none => false)
  | .cmp o a b, _, K, e => (match asCmp1 e with | some (l, op, r) => decide (op = cop o) && chkX a false K l && chkX b false K r && !behindInMarks op r | none => false)
  | .chain o o' a b c, _, K, e => (match asCmp2 e with | some (l, op, op', m, r) => decide (op = cop o) && decide (op' = cop o') && chkX a false K l && chkX b false K m && chkX c false K r && !lastMarks [op, op'] [m, r] | none => false)
  | .and a b, t, K, e => (match asAnd e with | some (x, y) => chkX a t K x && chkX b t K y | none => false)
  | .or a b, t, K, e => (match asOr e with | some (x, y) => chkX a t K x && chkX b t K y | none => false)
  | .not a, t, K, e => (match asUn e with | some (.Not, x) => chkX a t K x | _ => false)
  | .ite c a b, t, K, e => !t && (match asIf e with | some (x, y, z) => chkX c true K x && chkX a false K y && chkX b false K z | none => false)
  | .tup l, t, K, e => !t && decide (lenL l ≤ 1000) && (match asTup e with | some es => chkL l K es | none => false)
  | .lst l, t, K, e => !t && decide (lenL l ≤ 1000) && (match asLst e with | some es => chkL l K es | none => false)
  | .dic .nil, t, _, e => !t && asDic0 e
  | .idx a i, t, K, e => (!t || plainT e) && (match asSub e with | some (x, y) => chkX a false K x && chkX i false K y | none => false)
  | .rix a i, t, K, e => (!t || plainT e) && (match asSub e with | some (x, y) => chkX a false K x && chkX i false K y | none => false)
  | .slce a lo hi, t, K, e => !t && (match asSlc e with
    | some (x, l, h) => chkX a false K x && (match l with | none => isNilC lo | some l => !isNilC lo && chkX lo false K l) && (match h with | none => isNilC hi | some h => !isNilC hi && chkX hi false K h)
    | none => false)
  | .call f l, t, K, e => (!t || plainT e) && (match asCall e with | some (x, es) => glb K x && nameOk x && decide (K.nm.lookup x = some f) && chkL l K es | none => false)
  | .blt (.isa ty) a, t, K, e => (!t || plainT e) && (match asCall e with
    | some (x, [v, y]) => decide (x = "isinstance") && glb K x && decide (asName y = some (Str.ofString (tyS ty))) && glb K (Str.ofString (tyS ty)) && !isStarred v && chkX a false K v
    | _ => false)
  | .blt .sortSet a, t, K, e => (!t || plainT e) && (match asCall e with
    | some (x, [v]) => decide (x = "sorted") && glb K x && !isStarred v && (match asSet v with
      | some u => glb K "set" && !isStarred u && chkX a false K u
      | none => false)
    | _ => false)
  | .blt .lenSet a, t, K, e => (!t || plainT e) && (match asCall e with
    | some (x, [v]) => decide (x = "len") && glb K x && !isStarred v && (match asSet v with
      | some u => glb K "set" && !isStarred u && chkX a false K u
      | none => false)
    | _ => false)
  | .rev2 a s, t, K, e => !t && (match asStp e with
    | some (x, n) => decide (n = s) && chkX a false K x
    | none => false)
  | .blt b a, t, K, e => (!t || plainT e) && (match asCall e with
    | some (x, [v]) => decide (x = bname b) && decide (x ≠ "") && glb K x && !isStarred v && chkX a false K v
    | _ => false)
  | .isx a c, t, K, e => (!t || plainT e) && (match asCall e with
    | some (x, [v, y]) => decide (x = "isinstance") && glb K x && (match asName y with | some cn => glb K cn && nameOk cn && decide (K.cls.lookup cn = some c) | none => false) && !isStarred v && chkX a false K v
    | _ => false)
  | .sortk f ks a, t, K, e => !t && (match asSortk e with
    | some (v, g) => glb K "sorted" && glb K g && nameOk g && decide (K.nm.lookup g = some f) && (match ks with
      | true => (match asMeth0 v with | some (o, n) => decide (n = "keys") && chkX a false K o | none => false)
      | false => chkX a false K v)
    | none => false)
  | .mth m o a, t, K, e => (!t || plainT e) && (match asMeth1 e with
    | some (x, n, y) => decide (n = (match m with | .index => "index" | .count => "count" : Str)) && chkX o false K x && chkX a false K y
    | none => false)
  | .lc vs tg it c e', t, K, e => !t && (match asLc e with
    | some (elt, tx, iter, ifs, sc) => blkC K.N K.sc sc (ownL K vs) && (tgIs tg).all (fun i => decide (i ∈ vs)) && chkTg (K.blk sc) tg tx && chkI it K tx iter && notSetE iter && chkX e' false (K.blk sc) elt && (match ifs with
      | [] => isTrueC c
      | [i] => chkX c true (K.blk sc) i
      | _ => false)
    | none => false)
  | .lc2 vs tg it c vs' tg' it' c' e', t, K, e => !t && (match asLc2 e with
    | some l => blkC K.N K.sc l.sc (ownL K vs) && (tgIs tg).all (fun i => decide (i ∈ vs)) && (tgIs tg').all (fun i => decide (i ∈ vs')) && vs'.all (fun i => decide (i ∈ vs)) && chkTg (K.blk l.sc) tg l.t && chkI it K l.t l.it && notSetE l.it
      && chkTg (K.blk l.sc) tg' l.t1 && chkI it' (K.blk l.sc) l.t1 l.it1 && notSetE l.it1 && chkX e' false (K.blk l.sc) l.elt && (match l.ifs with
      | [] => isTrueC c
      | [i] => chkX c true (K.blk l.sc) i
      | _ => false) && (match l.ifs1 with
      | [] => isTrueC c'
      | [i] => chkX c' true (K.blk l.sc) i
      | _ => false)
    | none => false)
  | _, _, _, _ => false
def chkL : CE → KC → List Expr → Bool
  | .nil, _, [] => true
  | .cons a r, K, e :: es => !isStarred e && chkX a false K e && chkL r K es
  | _, _, _ => false
def chkI : CE → KC → Expr → Expr → Bool
  | .dead, _, _, _ => true
  | .iv a, K, _, e => chkX a false K e
  | .ir l, K, _, e => (match asCall e with | some (x, es) => decide (x = "range") && glb K x && (decide (lenL l = 1) || decide (lenL l = 2)) && chkL l K es | none => false)
  | .iz l, K, t, e => isTupE t && (match asCall e with | some (x, es) => decide (x = "zip") && glb K x && decide (lenL l = 2) && chkL l K es | none => false)
  | .ie l, K, t, e => isTupE t && (match asCall e with | some (x, es) => decide (x = "enumerate") && glb K x && decide (lenL l = 1) && chkL l K es | none => false)
  | _, _, _, _ => false
end

/-! ### what the views tell -/
theorem asName_eq {e : Expr} {x : Str} (h : asName e = some x) : ∃ p, e = .Name x p := by cases e <;> simp [asName] at h; subst h; exact ⟨_, rfl⟩
theorem asConst_eq {e : Expr} {c : Const} (h : asConst e = some c) : ∃ j p, e = .Constant c j p := by cases e <;> simp [asConst] at h; subst h; exact ⟨_, _, rfl⟩
theorem asBin_eq {e l r : Expr} {o : Operator} (h : asBin e = some (l, o, r)) : ∃ p, e = .BinOp l o r p := by cases e <;> simp [asBin] at h; obtain ⟨rfl, rfl, rfl⟩ := h; exact ⟨_, rfl⟩
theorem asUn_eq {e r : Expr} {o : UnaryOp} (h : asUn e = some (o, r)) : ∃ p, e = .UnaryOp o r p := by cases e <;> simp [asUn] at h; obtain ⟨rfl, rfl⟩ := h; exact ⟨_, rfl⟩
theorem asCmp1_eq {e l r : Expr} {o : CmpOp} (h : asCmp1 e = some (l, o, r)) : ∃ p, e = .Compare l [o] [r] p := by
  unfold asCmp1 at h
  split at h
  · cases h; exact ⟨_, rfl⟩
  · cases h
theorem asCmp2_eq {e l m r : Expr} {o o' : CmpOp} (h : asCmp2 e = some (l, o, o', m, r)) : ∃ p, e = .Compare l [o, o'] [m, r] p := by
  unfold asCmp2 at h
  split at h
  · cases h; exact ⟨_, rfl⟩
  · cases h
theorem asAnd_eq {e x y : Expr} (h : asAnd e = some (x, y)) : (∃ p, e = .BoolOp .And [x, y] p) ∨ ∃ a b r p, y = .BoolOp .And (a :: b :: r) p ∧ e = .BoolOp .And (x :: a :: b :: r) p := by
  unfold asAnd at h
  split at h
  · cases h; exact .inl ⟨_, rfl⟩
  · cases h; exact .inr ⟨_, _, _, _, rfl, rfl⟩
  · cases h
theorem asOr_eq {e x y : Expr} (h : asOr e = some (x, y)) : (∃ p, e = .BoolOp .Or [x, y] p) ∨ ∃ a b r p, y = .BoolOp .Or (a :: b :: r) p ∧ e = .BoolOp .Or (x :: a :: b :: r) p := by
  unfold asOr at h
  split at h
  · cases h; exact .inl ⟨_, rfl⟩
  · cases h; exact .inr ⟨_, _, _, _, rfl, rfl⟩
  · cases h
theorem asIf_eq {e a b c : Expr} (h : asIf e = some (a, b, c)) : ∃ p, e = .IfExp a b c p := by cases e <;> simp [asIf] at h; obtain ⟨rfl, rfl, rfl⟩ := h; exact ⟨_, rfl⟩
theorem asTup_eq {e : Expr} {es : List Expr} (h : asTup e = some es) : ∃ k p, e = .Tuple es k p := by cases e <;> simp [asTup] at h; subst h; exact ⟨_, _, rfl⟩
theorem asLst_eq {e : Expr} {es : List Expr} (h : asLst e = some es) : ∃ p, e = .List es p := by cases e <;> simp [asLst] at h; subst h; exact ⟨_, rfl⟩
theorem asDic0_eq {e : Expr} (h : asDic0 e = true) : ∃ p, e = .Dict [] [] p := by
  unfold asDic0 at h
  split at h
  · exact ⟨_, rfl⟩
  · cases h
theorem asSub_eq {e a i : Expr} (h : asSub e = some (a, i)) : (∃ p, e = .Subscript a i p) ∧ PlainIx i := by
  unfold asSub at h
  split at h
  · split at h
    · cases h
    · rename_i hs
      cases h
      exact ⟨⟨_, rfl⟩, fun o j => by cases i <;> first | rfl | exact absurd rfl hs⟩
  · cases h
theorem asSlc_eq {e a : Expr} {lo hi : Option Expr} (h : asSlc e = some (a, lo, hi)) : ∃ p q, e = .Subscript a (.Slice lo hi none p) q := by
  unfold asSlc at h
  split at h
  · cases h; exact ⟨_, _, rfl⟩
  · cases h
theorem asCall_eq {e : Expr} {x : Str} {es : List Expr} (h : asCall e = some (x, es)) : ∃ p q, e = .Call (.Name x p) es [] q := by
  unfold asCall at h
  split at h
  · cases h; exact ⟨_, _, rfl⟩
  · cases h
theorem plainO_eq {o : Expr} (h : plainO o = true) (n : Str) (env : Env) : attributeBase o n env (eval o env) = eval o env := by
  cases o with
  | Call f es ks p => cases f <;> first | rfl | (cases es <;> cases ks <;> first | rfl | (simp [plainO] at h; done))
  | _ => rfl
theorem asMeth0_eq {e o : Expr} {n : Str} (h : asMeth0 e = some (o, n)) : ∃ a c : Pos, e = .Call (.Attribute o n a) [] [] c ∧ (a.endLine == c.line) = true ∧ plainO o = true := by
  unfold asMeth0 at h
  split at h
  · split at h
    · rename_i hz
      cases h
      simp only [Bool.and_eq_true] at hz
      exact ⟨_, _, rfl, hz.2, hz.1⟩
    · cases h
  · cases h
theorem asMeth1_eq {e o y : Expr} {n : Str} (h : asMeth1 e = some (o, n, y)) : ∃ a c : Pos, e = .Call (.Attribute o n a) [y] [] c ∧ (a.endLine == c.line) = true ∧ plainO o = true ∧ isStarred y = false := by
  unfold asMeth1 at h
  split at h
  · split at h
    · rename_i hz
      cases h
      simp only [Bool.and_eq_true, Bool.not_eq_true'] at hz
      exact ⟨_, _, rfl, hz.1.2, hz.1.1, hz.2⟩
    · cases h
  · cases h
theorem asSortk_eq {e v : Expr} {g : Str} (h : asSortk e = some (v, g)) : ∃ p p2 kp q, e = .Call (.Name "sorted" p) [v] [⟨some "key", .Name g p2, kp⟩] q ∧ isStarred v = false := by
  unfold asSortk at h
  split at h
  · split at h
    · rename_i hz
      cases h
      simp only [Bool.and_eq_true, Bool.not_eq_true', beq_iff_eq] at hz
      obtain ⟨⟨h1, h2⟩, h3⟩ := hz
      subst h1 h2
      exact ⟨_, _, _, _, rfl, h3⟩
    · cases h
  · cases h
theorem asLc_eq {e elt t it : Expr} {ifs : List Expr} {sc : Scope} (h : asLc e = some (elt, t, it, ifs, sc)) : ∃ p, e = .ListComp elt [⟨t, it, ifs, 0⟩] sc p := by
  unfold asLc at h
  split at h
  · split at h
    · rename_i hz
      cases h
      simp only [beq_iff_eq] at hz
      subst hz
      exact ⟨_, rfl⟩
    · cases h
  · cases h
theorem asSet_eq {e u : Expr} (h : asSet e = some u) : ∃ p q, e = .Call (.Name "set" p) [u] [] q := by
  unfold asSet at h
  split at h
  · split at h
    · rename_i hz
      cases h
      have := eq_of_beq hz
      subst this
      exact ⟨_, _, rfl⟩
    · cases h
  · cases h
theorem asStp_eq {e a : Expr} {n : Nat} (h : asStp e = some (a, n)) : (n = 0 ∧ ∃ k p1 p2 p3 q, e = .Subscript a (.Slice none none (some (.UnaryOp .USub (.Constant (.int 1) k p1) p2)) p3) q) ∨ (n = 1 ∧ ∃ k p1 p2 q, e = .Subscript a (.Slice none none (some (.Constant (.int 2) k p1)) p2) q) ∨
    ∃ m, n = m + 1 ∧ ∃ k p k2 p2 p3 q, e = .Subscript a (.Slice (some (.Constant (.int (m : Int)) k p)) none (some (.Constant (.int 2) k2 p2)) p3) q := by
  unfold asStp at h
  split at h
  · cases h; exact .inl ⟨rfl, _, _, _, _, _, rfl⟩
  · cases h; exact .inr (.inl ⟨rfl, _, _, _, _, rfl⟩)
  · split at h
    · rename_i n' k' p' k2 p2 p3 q' hz
      cases h
      exact .inr (.inr ⟨n'.toNat, rfl, k', p', k2, p2, p3, q', by rw [Int.toNat_of_nonneg hz]⟩)
    · cases h
  · cases h
theorem asLc2_eq {e : Expr} {l : Lc2V} (h : asLc2 e = some l) : ∃ p, e = .ListComp l.elt [⟨l.t, l.it, l.ifs, 0⟩, ⟨l.t1, l.it1, l.ifs1, 0⟩] l.sc p := by
  unfold asLc2 at h
  split at h
  · split at h
    · rename_i hz
      cases h
      simp only [Bool.and_eq_true, beq_iff_eq] at hz
      obtain ⟨h1, h2⟩ := hz
      subst h1 h2
      exact ⟨_, rfl⟩
    · cases h
  · cases h
theorem star_cons {e : Expr} {es : List Expr} {env : Env} (h : isStarred e = false) : starEach (e :: es) env = (false, eval e env) :: starEach es env := by
  cases e <;> first | (simp [isStarred] at h; done) | simp [starEach]
theorem star_plain : ∀ {es : List Expr} {env : Env}, (∀ e ∈ es, isStarred e = false) → ∀ pos, (backTo pos (starEach es env)).any (·.1) = false
  | [], _, _, pos => by simp [starEach, backTo]
  | e :: es, env, h, pos => by
    rw [star_cons (h e List.mem_cons_self)]
    have := star_plain (es := es) (env := env) (fun x hx => h x (List.mem_cons_of_mem _ hx)) pos
    simpa [backTo] using this
theorem notSet_eq {e : Expr} (h : notSetE e = true) (env : Env) (x : Value) : foldedSetIterable e env x = pure x := by
  cases e <;> first | (simp [notSetE] at h; done) | rfl
theorem plainT_eq {e : Expr} (h : plainT e = true) (env : Env) (whole : Sem Value) : isTrue e env whole = (do let v ← whole; standAt e.pos; holding [v] (truthy v)) := by
  cases e <;> first | (simp [plainT] at h; done) | rfl
end R
end
section
set_option Elab.async false
set_option linter.all false
set_option maxRecDepth 100000
/-! RK2: what is checked is sound: expressions. -/
namespace R
open PySem PySem.Spec PyProof.Rows L2
def blts : List Str := ["len", "tuple", "list", "all", "any", "sorted", "sum", "abs", "isinstance", "int", "bool", "dict", "str", "range", "zip", "enumerate", "min", "max", "set"]
structure Okk (S : St0) (W : WX) (T : Tab) (K : KC) (X : Cx) : Prop where
  ag : Agree S X
  N : X.N = K.N
  nd : X.N.Nodup
  sc : X.env.scope = K.sc
  fb : X.fn = K.fb
  calm : X.calm = true
  hd : X.A.handled = none
  hu : X.A.units + 65 < cLine
  hf : ∀ f, S.fnv f ≠ .non
  tk : Takes X W
  fns : ∀ x f, K.nm.lookup x = some f → ∃ (k : Nat) (adr : Addr) (fd : FuncData) (ps : List Str), FnOk X.prog X.w X.K X.mg X.base (L2.CX X.prog X.w) k adr fd ps (spF S (T.call f)) ∧ Room k X.A ∧ Room k X.A.in1.in1 ∧
    X.mg x = some (.ref adr) ∧ PySem.W.keepIn X.K (.ref adr) = true ∧ Binds X.K fd ps [] ∧ S.fnv f = .ref adr
  gls : ∀ x g, K.gl.lookup x = some g → ∃ u v d, X.mg x = some u ∧ RelV v u ∧ T.gv g = some d ∧ ∀ F μ, Rep S F μ d v
  bl : ∀ x ∈ blts, X.mg x = none
  cls : ∀ x c, K.cls.lookup x = some c → ∃ (cv : Value) (v : V), RelV v cv ∧ (∀ u, RelV v u → u = cv) ∧ (X.mg x = some cv ∨ (X.mg x = none ∧ bootBuiltins x = some cv ∧ x ≠ "__name__")) ∧
    ∀ k b, T.sub k c = some b → PySem.W.exmOne X.K (S.exv k) cv = some b ∧ ∃ D : Addr, S.exv k = .ref D ∧ ExcC X.K D ∧ PySem.W.kitOne X.K (.ref D) cv = some b
section
variable {S : St0} {W : WX} {T : Tab} {K : KC} {X : Cx}
theorem Okk.gl (ok : Okk S W T K X) {x : Str} (h : glb K x = true) : Gl X x := by
  have : K.sc.names.lookup x = some .globalImplicit := of_decide_eq_true h
  show X.env.scope.names.lookup x = _
  rw [ok.sc]; exact this
theorem Okk.vis (ok : Okk S W T K X) {x : Str} (h : visb K x = true) : Vis X.env.scope x := by
  simp only [visb, Bool.or_eq_true, decide_eq_true_eq] at h
  rw [ok.sc]
  rcases h with (h | h) | h
  · exact .inl h
  · exact .inr (.inl h)
  · exact .inr (.inr h)
theorem Okk.loc (ok : Okk S W T K X) {x : Str} (h : locb K x = true) : Loc X.env.scope x ∧ (X.fn x = true ∨ X.env.scope.names.lookup x = some .local) := by
  simp only [locb, Bool.and_eq_true, Bool.or_eq_true, decide_eq_true_eq] at h
  rw [ok.sc, ok.fb]
  exact ⟨h.1, h.2⟩
theorem nameOk_1 {x : Str} (h : nameOk x = true) : (x == ("__debug__" : Str)) = false := by
  simp only [nameOk, Bool.and_eq_true, Bool.not_eq_true'] at h; exact h.1
theorem nameOk_2 {x : Str} (h : nameOk x = true) : (x == ("__classdict__" : Str)) = false := by
  simp only [nameOk, Bool.and_eq_true, Bool.not_eq_true'] at h; exact h.2
theorem Okk.blk (ok : Okk S W T K X) (scope : Scope) (s : Shared) (H : Hp) (C : Addr) (cl : List (Str × Addr)) (fp : List Addr) : Okk S WF T (K.blk scope) (X.blk s H scope (compEnvC scope cl C X.env) fp) where
  ag := ⟨ok.ag.P, ok.ag.w, ok.ag.K⟩
  N := ok.N
  nd := ok.nd
  sc := by
    show relabel scope X.env = relS scope K.sc
    unfold relabel relS Env.kindOf
    rw [ok.sc]
  fb := rfl
  calm := ok.calm
  hd := ok.hd
  hu := ok.hu
  hf := ok.hf
  tk := fun u s' x => by
    obtain ⟨_, _, _, _, _, _, _, _, _, _, _, _, _, _, _, _, w⟩ := x
    exact w.elim
  fns := ok.fns
  gls := ok.gls
  bl := ok.bl
  cls := ok.cls
theorem PE.via {e : Expr} {t t' : TE} (p : PE X e t') (h : ∀ σ H Q, t σ H Q → t' σ H Q) : PE X e t := ⟨fun pins s σ H Q I q => p.run pins s σ H Q I (h σ H Q q)⟩
theorem PT.via {e : Expr} {t t' : TT} (p : PT X e t') (h : ∀ σ H Q, t σ H Q → t' σ H Q) : PT X e t := ⟨fun pins s σ H Q I q => p.run pins s σ H Q I (h σ H Q q)⟩
theorem PA.via {e : List Expr} {t t' : TA} (p : PA X e t') (h : ∀ σ H Q, t σ H Q → t' σ H Q) : PA X e t := ⟨fun pos pins s σ H Q I q => p.run pos pins s σ H Q I (h σ H Q q)⟩
theorem PI.via {g e : Expr} {t t' : TI} (p : PI X g e t') (h : ∀ σ H Q, t σ H Q → t' σ H Q) : PI X g e t := ⟨fun pins s σ H Q I q => p.run pins s σ H Q I (h σ H Q q)⟩
/-- a test of and, or is the same whatever its whole is -/
theorem pw_bool {op : BoolOp} {vs : List Expr} {pos : Pos} {t : TT} (h : PT X (.BoolOp op vs pos) t) : PW X (.BoolOp op vs pos) t := ⟨fun whole pins s σ H Q I q => h.run pins s σ H Q I q⟩
theorem both {c : CE} {e : Expr} {t : Bool} (h : (!t || plainT e) = true) (p : PE X e (tE S W T c)) : (t = false → PE X e (tE S W T c)) ∧ (t = true → PT X e (tT S W T c)) :=
  ⟨fun _ => p, fun ht => by
    subst ht
    exact pt_val p (plainT_eq (by simpa using h) _)⟩
theorem only {c : CE} {e : Expr} {t : Bool} (h : (!t) = true) (p : PE X e (tE S W T c)) : (t = false → PE X e (tE S W T c)) ∧ (t = true → PT X e (tT S W T c)) :=
  ⟨fun _ => p, fun ht => by subst ht; cases h⟩
/-- f(..) of one's own def -/
theorem pe_own {x : Str} {p pos : Pos} {es : List Expr} {ta : TA} {k : Nat} {adr : Addr} {fd : FuncData} {ps : List Str} {sp : Sp} (tk : Takes X W) (F : FnOk X.prog X.w X.K X.mg X.base (L2.CX X.prog X.w) k adr fd ps sp) (hr : Room k X.A) (hg : Gl X x) (hm : X.mg x = some (.ref adr)) (hk : PySem.W.keepIn X.K (.ref adr) = true) (hb : Binds X.K fd ps [])
    (ha : PA X es ta) (hd : (x == ("__debug__" : Str)) = false) (hs : ∀ e ∈ es, isStarred e = false) (hne : es ≠ []) : PE X (.Call (.Name x p) es [] pos) (tCallS sp (WE W) ta) := by
  cases es with
  | cons e es => exact pe_callS F hr hg hm hk hb (passAt tk) ha hd (star_cons (hs e List.mem_cons_self)) (star_plain (fun x hx => hs x (List.mem_cons_of_mem _ hx)) pos)
  | nil => exact absurd rfl hne
theorem pe_own0 {x : Str} {p pos : Pos} {k : Nat} {adr : Addr} {fd : FuncData} {ps : List Str} {sp : Sp} (tk : Takes X W) (F : FnOk X.prog X.w X.K X.mg X.base (L2.CX X.prog X.w) k adr fd ps sp) (hr : Room k X.A) (hg : Gl X x) (hm : X.mg x = some (.ref adr)) (hk : PySem.W.keepIn X.K (.ref adr) = true) (hb : Binds X.K fd ps [])
    (hd : (x == ("__debug__" : Str)) = false) : PE X (.Call (.Name x p) [] [] pos) (tCallS sp (WE W) tNil) :=
  ⟨fun pins s σ H Q I h => wpAny_Call_Name_kw (ld_glob I hg hm (PySem.W.callWith_K0 I.kIn hk (run_fnS (us := []) F hr hb (passAt tk σ) I .nil h)) hd)⟩
theorem bool_pe {A B : Expr} {op : BoolOp} {pos : Pos} {t : TE} (h : PE X B t) : PE X (.BoolOp op [B] pos) t := pe_one h
theorem ok_const {x : Expr} {c : CE} {v : V} {t : Bool} (h : (!t || plainT x) = true) (p : PE X x (tC v)) (hq : ∀ σ H Q, tE S W T c σ H Q → Q v H) : (t = false → PE X x (tE S W T c)) ∧ (t = true → PT X x (tT S W T c)) := both h (PE.via p hq)
theorem str_boot : ∀ b : Blt, bname b ≠ "" → (bootBuiltins (bname b) = some (match b with | .tuple => .type "tuple" | .list => .type "list" | .len => .builtin "len" | .all => .builtin "all" | .any => .builtin "any" | .sorted => .builtin "sorted" | .sum => .builtin "sum" | .abs => .builtin "abs" | _ => .none)) ∧ bname b ≠ "__name__" ∧ ((bname b == ("__debug__" : Str)) = false) ∧ bname b ∈ blts := fun b h => by
  cases b <;> first | exact absurd rfl h | exact ⟨by decide +kernel, by decide, by decide, by decide⟩
theorem ok_blt {b : Blt} {a : CE} {v : Expr} {p q : Pos} (ok : Okk S W T K X) (hb : bname b ≠ "") (hg : glb K (bname b) = true) (hs : isStarred v = false) (pa : PE X v (tE S W T a)) : PE X (.Call (.Name (bname b) p) [v] [] q) (tE S W T (.blt b a)) := by
  obtain ⟨h1, h2, h3, h4⟩ := str_boot b hb
  have args : PA X [v] (tCons (tE S W T a) tNil) := pa_cons pa pa_nil (star_cons hs)
  have g := ok.gl hg
  have m := ok.bl _ h4
  have via : ∀ σ H Q, tE S W T (.blt b a) σ H Q → tCB (r1 S (bltD b)) (tCons (tE S W T a) tNil) σ H Q := fun σ H Q h => t_blt h
  cases b with
  | len => exact PE.via (pe_callB (bl_len ok.ag) g m h1 args h2 h3 (star_cons hs) (by simp [starEach, backTo])) via
  | all => exact PE.via (pe_callB (bl_all ok.ag ok.calm) g m h1 args h2 h3 (star_cons hs) (by simp [starEach, backTo])) via
  | any => exact PE.via (pe_callB (bl_any ok.ag ok.calm) g m h1 args h2 h3 (star_cons hs) (by simp [starEach, backTo])) via
  | sum => exact PE.via (pe_callB (bl_sum ok.ag ok.calm) g m h1 args h2 h3 (star_cons hs) (by simp [starEach, backTo])) via
  | abs => exact PE.via (pe_callB bl_abs g m h1 args h2 h3 (star_cons hs) (by simp [starEach, backTo])) via
  | sorted => exact PE.via (pe_callB (bl_sorted ok.ag ok.hu) g m h1 args h2 h3 (star_cons hs) (by simp [starEach, backTo])) via
  | tuple => exact PE.via (pe_callTy (bl_tuple ok.ag) g m h1 args h2 h3 (star_cons hs) (by simp [starEach, backTo])) via
  | list => exact PE.via (pe_callTy (bl_list ok.ag) g m h1 args h2 h3 (star_cons hs) (by simp [starEach, backTo])) via
  | _ => exact absurd rfl hb
theorem ty_boot (t : Ty) : bootBuiltins (Str.ofString (tyS t)) = some (.type (tyS t)) ∧ Str.ofString (tyS t) ≠ "__name__" ∧ (Str.ofString (tyS t) == ("__debug__" : Str)) = false ∧ Str.ofString (tyS t) ∈ blts := by
  cases t <;> exact ⟨by decide +kernel, by decide, by decide, by decide⟩
theorem isa_boot : bootBuiltins "isinstance" = some (.builtin "isinstance") := boot_isinstance
theorem ok_isa {t : Ty} {a : CE} {v : Expr} {p q p2 : Pos} (ok : Okk S W T K X) (hg : glb K "isinstance" = true) (ht : glb K (Str.ofString (tyS t)) = true) (hs : isStarred v = false) (pa : PE X v (tE S W T a)) :
    PE X (.Call (.Name "isinstance" p) [v, .Name (Str.ofString (tyS t)) p2] [] q) (tE S W T (.blt (.isa t) a)) := by
  obtain ⟨h1, h2, h3, h4⟩ := ty_boot t
  have pt : PE X (.Name (Str.ofString (tyS t)) p2) (tC (.ty (tyS t))) := pe_bltn (ok.gl ht) (ok.bl _ h4) h1 rfl h2 h3
  have args : PA X [v, .Name (Str.ofString (tyS t)) p2] (tCons (tE S W T a) (tCons (tC (.ty (tyS t))) tNil)) := pa_cons pa (pa_cons pt pa_nil (star_cons rfl)) (star_cons hs)
  refine PE.via (pe_callB (bl_isa ok.ag t) (ok.gl hg) (ok.bl _ (by decide)) isa_boot args (by decide) (by decide) (star_cons hs) (by simp [starEach, backTo])) fun σ H Q h => ?_
  refine tE.imp (t_blt h) fun x H1 z => ?_
  obtain ⟨F, μ, d, x', k, e0, h1, h2, h3, h4⟩ := z
  cases e0
  simp only [bltD, Option.map_eq_some_iff] at h3
  obtain ⟨b, hb, rfl⟩ := h3
  exact ⟨F, μ, d, x, b, rfl, h1, h2, hb, h4 _ _ (Same.refl _) OV.bl⟩

/-- isinstance of a caught exception -/
theorem call_isx {D : Addr} {v : V} {cv : Value} {b : Bool} (C : ExcC X.K D) (hv : ∀ u, RelV v u → u = cv) (hk : PySem.W.kitOne X.K (.ref D) cv = some b) : CallR X (.builtin "isinstance") (fun xs H Q => ∃ a, xs = [.ref a, v] ∧ H a = some (exK (.ref D) none a) ∧ Q (.bl b) H) := by
  intro pins s σ H xs us Q I r h
  obtain ⟨a, rfl, ha, q⟩ := h
  obtain ⟨u1, u2, rfl, r1, r2⟩ := vals2 r
  cases r1
  have ec := hv _ r2
  subst ec
  obtain ⟨⟨oe, vs, g1, g2, g3⟩, _⟩ := I.hok a _ ha
  have J : PySem.W.InstAt s.heap a oe D none := by
    obtain ⟨c1, d1, t1, l1⟩ := oe
    obtain ⟨h1, h2⟩ := g2
    dsimp only at h1 h2 g3
    subst h1 h2 g3
    exact ⟨g1, rfl, rfl, trivial⟩
  exact PySem.W.kia_one (PySem.W.handS_kitx_exc C.hg C.hk C.hs C.hd C.ha C.hn C.ht C.hm) I.kIn J hk (fun z => nomatch z) fun tk => ⟨.bl b, H, I.tok tk, rfl, q⟩
theorem call_isxAll {v : V} {cv : Value} {c : Nat} (hv : ∀ u, RelV v u → u = cv) (hk : ∀ k b, T.sub k c = some b → ∃ D : Addr, S.exv k = .ref D ∧ ExcC X.K D ∧ PySem.W.kitOne X.K (.ref D) cv = some b) :
    CallR X (.builtin "isinstance") (fun xs H Q => ∃ a k b, xs = [.ref a, v] ∧ H a = some (exK (S.exv k) none a) ∧ T.sub k c = some b ∧ Q (.bl b) H) := by
  intro pins s σ H xs us Q I r h
  obtain ⟨a, k, b, rfl, ha, hs, q⟩ := h
  obtain ⟨D, e1, e2, e3⟩ := hk k b hs
  rw [e1] at ha
  exact call_isx e2 hv e3 pins s σ H _ us Q I r ⟨a, rfl, ha, q⟩
theorem t_isx {a : CE} {c : Nat} {v : V} {σ : L2.St} {H : Hp} {Q : VK} (h : tE S W T (.isx a c) σ H Q) : tCB (fun xs H Q => ∃ a k b, xs = [.ref a, v] ∧ H a = some (exK (S.exv k) none a) ∧ T.sub k c = some b ∧ Q (.bl b) H) (tCons (tE S W T a) (tCons (tC v) tNil)) σ H Q := by
  obtain ⟨env, w, μ, G, r, p⟩ := h
  rw [evE] at p
  refine ⟨env, w, μ, G, r, p.bnd r fun x w1 u H1 μ1 e1 r1 v1 f1 p1 => ?_⟩
  obtain ⟨k, d⟩ := x
  cases d with
  | exc k2 p2 =>
    cases p2 with
    | nil =>
      have sv := v1.sv r1
      simp only [Sv, Rep] at sv
      obtain ⟨b, rfl, hb⟩ := sv
      cases hs : T.sub k2 c with
      | none => simp only [hs] at p1; exact False.elim p1
      | some bb =>
        simp only [hs] at p1
        exact ⟨b, k2, bb, rfl, hide_same _ _ _ _ hb, hs, t_const r1 p1 fun _ _ => by simp only [Rep]⟩
    | cons _ _ => exact False.elim p1
  | _ => exact False.elim p1
theorem pe_cls (ok : Okk S W T K X) {x : Str} {p : Pos} {cv : Value} {v : V} (hg : glb K x = true) (hn : nameOk x = true) (r : RelV v cv) (h : X.mg x = some cv ∨ (X.mg x = none ∧ bootBuiltins x = some cv ∧ x ≠ "__name__")) : PE X (.Name x p) (tC v) := by
  rcases h with h | ⟨h1, h2, h3⟩
  · exact pe_glob (ok.gl hg) h r (nameOk_1 hn)
  · exact pe_bltn (ok.gl hg) h1 h2 r h3 (nameOk_1 hn)
theorem ok_isx {c : Nat} {a : CE} {v : Expr} {x : Str} {p q p2 : Pos} (ok : Okk S W T K X) (hg : glb K "isinstance" = true) (ht : glb K x = true) (hn : nameOk x = true) (hc : K.cls.lookup x = some c) (hs : isStarred v = false) (pa : PE X v (tE S W T a)) :
    PE X (.Call (.Name "isinstance" p) [v, .Name x p2] [] q) (tE S W T (.isx a c)) := by
  obtain ⟨cv, u, h1, h2, h3, h4⟩ := ok.cls x c hc
  have pt : PE X (.Name x p2) (tC u) := pe_cls ok ht hn h1 h3
  have args : PA X [v, .Name x p2] (tCons (tE S W T a) (tCons (tC u) tNil)) := pa_cons pa (pa_cons pt pa_nil (star_cons rfl)) (star_cons hs)
  exact PE.via (pe_callB (call_isxAll h2 fun k b hb => (h4 k b hb).2) (ok.gl hg) (ok.bl _ (by decide)) isa_boot args (by decide) (by decide) (star_cons hs) (by simp [starEach, backTo])) fun σ H Q h => t_isx h
end
end R
end
section
set_option Elab.async false
set_option linter.all false
set_option maxRecDepth 100000
/-! RK3: the induction over core expressions. -/
namespace R
open PySem PySem.Spec PyProof.Rows L2
def SndX (S : St0) (T : Tab) (c : CE) : Prop := ∀ (t : Bool) (K : KC) (W : WX) (X : Cx) (e : Expr), Okk S W T K X → chkX c t K e = true → (t = false → PE X e (tE S W T c)) ∧ (t = true → PT X e (tT S W T c))
def SndL (S : St0) (T : Tab) (c : CE) : Prop := ∀ (K : KC) (W : WX) (X : Cx) (es : List Expr), Okk S W T K X → chkL c K es = true → PA X es (tL S W T c) ∧ (∀ e ∈ es, isStarred e = false) ∧ es.length = lenL c
def SndI (S : St0) (T : Tab) (c : CE) : Prop := ∀ (K : KC) (W : WX) (X : Cx) (t e : Expr), Okk S W T K X → chkI c K t e = true → PI X t e (tI S W T c)
section
variable {S : St0} {T : Tab} {K : KC} {W : WX} {X : Cx} {a b c : CE}
theorem SndX.e (h : SndX S T a) {e : Expr} (ok : Okk S W T K X) (q : chkX a false K e = true) : PE X e (tE S W T a) := (h false K W X e ok q).1 rfl
theorem SndX.t (h : SndX S T a) {e : Expr} (ok : Okk S W T K X) (q : chkX a true K e = true) : PT X e (tT S W T a) := (h true K W X e ok q).2 rfl
theorem ok_names (ok : Okk S W T K X) : ∀ {is : List Nat} {es : List Expr}, chkNames K is es = true → PGs X es (gMany is) ∧ (∀ e ∈ es, isStarred e = false) ∧ es.length = is.length
  | [], [], _ => ⟨pgs_nil, fun e h => by simp at h, rfl⟩
  | [], _ :: _, h => by simp [chkNames] at h
  | _ :: _, [], h => by simp [chkNames] at h
  | i :: is, e :: es, h => by
    simp only [chkNames, Bool.and_eq_true] at h
    obtain ⟨h1, h2⟩ := h
    obtain ⟨p1, p2, p3⟩ := ok_names ok h2
    split at h1
    · rename_i x hx
      obtain ⟨p, rfl⟩ := asName_eq hx
      simp only [Bool.and_eq_true, decide_eq_true_eq] at h1
      obtain ⟨l1, l2⟩ := ok.loc h1.2
      refine ⟨pgs_cons (pg_name ok.nd (by rw [ok.N]; exact h1.1) l1 l2) p1 (by simp [assignEach]), fun y hy => ?_, by simp [p3]⟩
      rcases List.mem_cons.mp hy with rfl | hy
      · rfl
      · exact p2 y hy
    · cases h1
theorem each_plain {env : Env} : ∀ {es : List Expr}, (∀ e ∈ es, isStarred e = false) → (assignEach es env).length = es.length ∧ (assignEach es env).findIdx? (·.1) = none
  | [], _ => by simp [assignEach]
  | e :: es, h => by
    obtain ⟨h1, h2⟩ := each_plain (env := env) (es := es) fun x hx => h x (List.mem_cons_of_mem _ hx)
    have he := h e List.mem_cons_self
    have : assignEach (e :: es) env = (false, assign e env) :: assignEach es env := by cases e <;> first | (simp [isStarred] at he; done) | simp [assignEach]
    rw [this]
    exact ⟨by simp [h1], by simp [List.findIdx?_cons, h2]⟩
theorem ok_tg (ok : Okk S W T K X) {tg : Tg} {e : Expr} (h : chkTg K tg e = true) : PG X e (gD X.K tg) := by
  cases tg with
  | one i =>
    simp only [chkTg] at h
    split at h
    · rename_i x hx
      obtain ⟨p, rfl⟩ := asName_eq hx
      simp only [Bool.and_eq_true, decide_eq_true_eq] at h
      obtain ⟨l1, l2⟩ := ok.loc h.2
      exact pg_name ok.nd (by rw [ok.N]; exact h.1) l1 l2
    · cases h
  | many is =>
    simp only [chkTg] at h
    split at h
    · rename_i es hx
      obtain ⟨k, p, rfl⟩ := asTup_eq hx
      obtain ⟨p1, p2, p3⟩ := ok_names ok h
      obtain ⟨q1, q2⟩ := each_plain (env := X.env) p2
      exact pg_tup ok.calm p1 (by rw [q1, p3]) q2
    · cases h
theorem inD_len {d : D} : True := trivial
theorem m_index (ok : Okk S W T K X) : MtR X "list.index" (r2m S (mthD .index)) := mt_indexDD ok.ag ok.hu
theorem m_count (ok : Okk S W T K X) : MtR X "list.count" (r2m S (mthD .count)) := mt_countDD ok.ag ok.hu
theorem all_few {X : Cx} {e : Expr} {cpos : Pos} (h : isStarred e = false) : ((backTo cpos (starEach [e] X.env)).all (fun x => !x.1) && (backToKw cpos (keywordEach [] X.env)).all (fun x => x.1.isSome)
      && decide ([e].length + ([] : List Keyword).length + (if ([] : List Keyword).isEmpty then 0 else 1) < 30)) = true := by
  rw [star_cons h]
  simp [starEach, backTo, keywordEach, backToKw]
theorem tests_of {c : CE} {ifs : List Expr} {sc : Scope} (ih : SndX S T c) (ok : Okk S W T K X) (h : (match ifs with | [] => isTrueC c | [i] => chkX c true (K.blk sc) i | _ => false) = true) :
    ∃ tst, (tst = false → c = .bl true) ∧ ∀ (s : Shared) (H : Hp) (C : Addr) (cl : List (Str × Addr)) (fp : List Addr), PTs (X.blk s H sc (compEnvC sc cl C X.env) fp) ifs (tTs S T c tst) := by
  split at h
  · refine ⟨false, fun _ => ?_, fun s H C cl fp => pts_nil⟩
    unfold isTrueC at h
    split at h
    · rfl
    · cases h
  · refine ⟨true, fun z => ?_, fun s H C cl fp => pts_one (ih.t (ok.blk sc s H C cl fp) h)⟩
    cases z
  · cases h
theorem lc2_parts {vs vs' : List Nat} {tg tg' : Tg} {it c it' c' e' : CE} {v : Expr} {t : Bool} (iit : SndI S T it) (ic : SndX S T c) (iit' : SndI S T it') (ic' : SndX S T c') (ie : SndX S T e') (ok : Okk S W T K X) (h : chkX (.lc2 vs tg it c vs' tg' it' c' e') t K v = true) :
    (!t) = true ∧ ∃ (l : Lc2V) (p : Pos) (tst tst' : Bool), v = .ListComp l.elt [⟨l.t, l.it, l.ifs, 0⟩, ⟨l.t1, l.it1, l.ifs1, 0⟩] l.sc p ∧ (∀ i ∈ tgIs tg, i ∈ vs) ∧ (∀ i ∈ tgIs tg', i ∈ vs') ∧ (∀ i ∈ vs', i ∈ (ownL K vs).map (·.2)) ∧ (ownL K vs).map (·.2) = vs ∧ (tst = false → c = .bl true) ∧ (tst' = false → c' = .bl true) ∧
    PI X l.t l.it (tI S W T it) ∧ BlkOk X.N X.env.scope l.sc (ownL K vs) ∧
    (∀ (s : Shared) (H : Hp) (C : Addr) (cl : List (Str × Addr)) (fp : List Addr), PG (X.blk s H l.sc (compEnvC l.sc cl C X.env) fp) l.t (gD X.K tg)) ∧
    (∀ (s : Shared) (H : Hp) (C : Addr) (cl : List (Str × Addr)) (fp : List Addr), PTs (X.blk s H l.sc (compEnvC l.sc cl C X.env) fp) l.ifs (tTs S T c tst)) ∧
    (∀ (s : Shared) (H : Hp) (C : Addr) (cl : List (Str × Addr)) (fp : List Addr), PI (X.blk s H l.sc (compEnvC l.sc cl C X.env) fp) l.t1 l.it1 (tI S WF T it')) ∧
    (∀ (s : Shared) (H : Hp) (C : Addr) (cl : List (Str × Addr)) (fp : List Addr), PG (X.blk s H l.sc (compEnvC l.sc cl C X.env) fp) l.t1 (gD X.K tg')) ∧
    (∀ (s : Shared) (H : Hp) (C : Addr) (cl : List (Str × Addr)) (fp : List Addr), PTs (X.blk s H l.sc (compEnvC l.sc cl C X.env) fp) l.ifs1 (tTs S T c' tst')) ∧
    (∀ (s : Shared) (H : Hp) (C : Addr) (cl : List (Str × Addr)) (fp : List Addr), PE (X.blk s H l.sc (compEnvC l.sc cl C X.env) fp) l.elt (tE S WF T e')) ∧ (∀ x, foldedSetIterable l.it X.env x = pure x) ∧ ∀ env x, foldedSetIterable l.it1 env x = pure x := by
  rw [chkX, Bool.and_eq_true] at h
  obtain ⟨h0, h⟩ := h
  refine ⟨h0, ?_⟩
  split at h
  · rename_i l hx
    obtain ⟨p, rfl⟩ := asLc2_eq hx
    simp only [Bool.and_eq_true] at h
    obtain ⟨⟨⟨⟨⟨⟨⟨⟨⟨⟨⟨⟨h1, h2⟩, h2'⟩, h2''⟩, h3⟩, h4⟩, h5⟩, h3'⟩, h4'⟩, h5'⟩, h6⟩, h7⟩, h7'⟩ := h
    have own2 : (ownL K vs).map (·.2) = vs := by unfold ownL; rw [List.map_map]; exact List.map_id' vs
    have bk : BlkOk X.N X.env.scope l.sc (ownL K vs) := by rw [ok.N, ok.sc]; exact blkOk_by h1
    obtain ⟨tst, hc, ht⟩ := tests_of ic ok h7
    obtain ⟨tst', hc', ht'⟩ := tests_of ic' ok h7'
    refine ⟨l, p, tst, tst', rfl, fun i hi => of_decide_eq_true (List.all_eq_true.mp h2 i hi), fun i hi => of_decide_eq_true (List.all_eq_true.mp h2' i hi), fun i hi => ?_, own2, hc, hc', iit K W X _ _ ok h4, bk, fun s H C cl fp => ok_tg (ok.blk l.sc s H C cl fp) h3, ht,
      fun s H C cl fp => iit' _ _ _ _ _ (ok.blk l.sc s H C cl fp) h4', fun s H C cl fp => ok_tg (ok.blk l.sc s H C cl fp) h3', ht', fun s H C cl fp => ie.e (ok.blk l.sc s H C cl fp) h6, notSet_eq h5 _, fun env => notSet_eq h5' env⟩
    rw [own2]
    exact of_decide_eq_true (List.all_eq_true.mp h2'' i hi)
  · cases h
theorem chk_ok (S : St0) (T : Tab) : ∀ c : CE, SndX S T c ∧ SndL S T c ∧ SndI S T c := fun c => by
  induction c with
  | nil =>
    refine ⟨fun t K W X e ok h => by simp [chkX] at h, fun K W X es ok h => ?_, fun K W X t e ok h => by simp [chkI] at h⟩
    cases es with
    | nil => exact ⟨PA.via pa_nil fun σ H Q z => t_nil z, fun e z => by simp at z, rfl⟩
    | cons _ _ => simp [chkL] at h
  | cons a r iha ihr =>
    refine ⟨fun t K W X e ok h => by simp [chkX] at h, fun K W X es ok h => ?_, fun K W X t e ok h => by simp [chkI] at h⟩
    cases es with
    | nil => simp [chkL] at h
    | cons e es =>
      simp only [chkL, Bool.and_eq_true, Bool.not_eq_true'] at h
      obtain ⟨⟨h1, h2⟩, h3⟩ := h
      obtain ⟨p1, p2, p3⟩ := ihr.2.1 K W X es ok h3
      refine ⟨PA.via (pa_cons (iha.1.e ok h2) p1 (star_cons h1)) fun σ H Q z => t_cons z, fun y hy => ?_, by simp [p3, lenL]⟩
      rcases List.mem_cons.mp hy with rfl | hy
      · exact h1
      · exact p2 y hy
  | var i =>
    refine ⟨fun t K W X e ok h => ?_, fun K W X es ok h => by simp [chkL] at h, fun K W X t e ok h => by simp [chkI] at h⟩
    rw [chkX, Bool.and_eq_true] at h
    obtain ⟨h0, h⟩ := h
    split at h
    · rename_i x hx
      obtain ⟨p, rfl⟩ := asName_eq hx
      simp only [Bool.and_eq_true, decide_eq_true_eq] at h
      exact both h0 (PE.via (pe_var (by rw [ok.N]; exact h.1.1) (ok.vis h.1.2) (nameOk_1 h.2) (nameOk_2 h.2)) fun σ H Q z => t_var z)
    · cases h
  | int i =>
    refine ⟨fun t K W X e ok h => ?_, fun K W X es ok h => by simp [chkL] at h, fun K W X t e ok h => by simp [chkI] at h⟩
    rw [chkX, Bool.and_eq_true, decide_eq_true_eq] at h
    obtain ⟨j, p, rfl⟩ := asConst_eq h.2
    exact ok_const h.1 pe_int fun σ H Q z => t_int z
  | str i =>
    refine ⟨fun t K W X e ok h => ?_, fun K W X es ok h => by simp [chkL] at h, fun K W X t e ok h => by simp [chkI] at h⟩
    rw [chkX, Bool.and_eq_true, decide_eq_true_eq] at h
    obtain ⟨j, p, rfl⟩ := asConst_eq h.2
    exact ok_const h.1 pe_str fun σ H Q z => t_str z
  | bl i =>
    refine ⟨fun t K W X e ok h => ?_, fun K W X es ok h => by simp [chkL] at h, fun K W X t e ok h => by simp [chkI] at h⟩
    rw [chkX, Bool.and_eq_true, decide_eq_true_eq] at h
    obtain ⟨j, p, rfl⟩ := asConst_eq h.2
    exact ok_const h.1 pe_bl fun σ H Q z => t_bl z
  | non =>
    refine ⟨fun t K W X e ok h => ?_, fun K W X es ok h => by simp [chkL] at h, fun K W X t e ok h => by simp [chkI] at h⟩
    rw [chkX, Bool.and_eq_true, decide_eq_true_eq] at h
    obtain ⟨j, p, rfl⟩ := asConst_eq h.2
    exact ok_const h.1 pe_non fun σ H Q z => t_non z
  | gl g =>
    refine ⟨fun t K W X e ok h => ?_, fun K W X es ok h => by simp [chkL] at h, fun K W X t e ok h => by simp [chkI] at h⟩
    rw [chkX, Bool.and_eq_true] at h
    obtain ⟨h0, h⟩ := h
    split at h
    · rename_i x hx
      obtain ⟨p, rfl⟩ := asName_eq hx
      simp only [Bool.and_eq_true, decide_eq_true_eq] at h
      obtain ⟨u, v, d, g1, g2, g3, g4⟩ := ok.gls x g h.2
      exact both h0 (PE.via (pe_glob (ok.gl h.1.1) g1 g2 (nameOk_1 h.1.2)) fun σ H Q z => t_gl g3 g4 z)
    · cases h
  | fn f =>
    refine ⟨fun t K W X e ok h => ?_, fun K W X es ok h => by simp [chkL] at h, fun K W X t e ok h => by simp [chkI] at h⟩
    rw [chkX, Bool.and_eq_true] at h
    obtain ⟨h0, h⟩ := h
    split at h
    · rename_i x hx
      obtain ⟨p, rfl⟩ := asName_eq hx
      simp only [Bool.and_eq_true, decide_eq_true_eq] at h
      obtain ⟨k, adr, fd, ps, g1, g2, g3, g4, g5, g6, g7⟩ := ok.fns x f h.2
      exact both h0 (PE.via (pe_glob (v := .ref adr) (ok.gl h.1.1) g4 rfl (nameOk_1 h.1.2)) fun σ H Q z => by have := t_fn z; rw [g7] at this; exact this)
    · cases h
  | neg a iha =>
    refine ⟨fun t K W X e ok h => ?_, fun K W X es ok h => by simp [chkL] at h, fun K W X t e ok h => by simp [chkI] at h⟩
    rw [chkX, Bool.and_eq_true] at h
    obtain ⟨h0, h⟩ := h
    split at h
    · rename_i x hx
      obtain ⟨p, rfl⟩ := asUn_eq hx
      exact only h0 (PE.via (pe_un un_neg (iha.1.e ok h)) fun σ H Q z => t_neg z)
    · cases h
  | bin o a b iha ihb =>
    refine ⟨fun t K W X e ok h => ?_, fun K W X es ok h => by simp [chkL] at h, fun K W X t e ok h => by simp [chkI] at h⟩
    rw [chkX, Bool.and_eq_true] at h
    obtain ⟨h0, h⟩ := h
    split at h
    · rename_i l op r hx
      obtain ⟨p, rfl⟩ := asBin_eq hx
      simp only [Bool.and_eq_true, decide_eq_true_eq] at h
      obtain ⟨⟨rfl, h1⟩, h2⟩ := h
      exact only h0 (PE.via (pe_op (op_binD ok.ag o) (iha.1.e ok h1) (ihb.1.e ok h2)) fun σ H Q z => t_bin z)
    · cases h
  | rep a b iha ihb =>
    refine ⟨fun t K W X e ok h => ?_, fun K W X es ok h => by simp [chkL] at h, fun K W X t e ok h => by simp [chkI] at h⟩
    rw [chkX, Bool.and_eq_true] at h
    obtain ⟨h0, h⟩ := h
    split at h
    · rename_i l op r hx
      obtain ⟨p, rfl⟩ := asBin_eq hx
      simp only [Bool.and_eq_true, decide_eq_true_eq] at h
      obtain ⟨⟨rfl, h1⟩, h2⟩ := h
      exact only h0 (PE.via (pe_op op_rep (iha.1.e ok h1) (ihb.1.e ok h2)) fun σ H Q z => t_rep z)
    · cases h
  | cmp o a b iha ihb =>
    refine ⟨fun t K W X e ok h => ?_, fun K W X es ok h => by simp [chkL] at h, fun K W X t e ok h => by simp [chkI] at h⟩
    rw [chkX] at h
    split at h
    · rename_i l op r hx
      obtain ⟨p, rfl⟩ := asCmp1_eq hx
      simp only [Bool.and_eq_true, decide_eq_true_eq, Bool.not_eq_true'] at h
      obtain ⟨⟨⟨rfl, h1⟩, h2⟩, h3⟩ := h
      have ho := op_cmpD ok.ag ok.hu ok.hf o
      exact ⟨fun _ => PE.via (pe_cmpR ho (iha.1.e ok h1) (ihb.1.e ok h2) h3) fun σ H Q z => t_cmp z, fun _ => PT.via (pt_cmpR ho (iha.1.e ok h1) (ihb.1.e ok h2) h3) fun σ H Q z => t_cmp z⟩
    · cases h
  | chain o o' a b c iha ihb ihc =>
    refine ⟨fun t K W X e ok h => ?_, fun K W X es ok h => by simp [chkL] at h, fun K W X t e ok h => by simp [chkI] at h⟩
    rw [chkX] at h
    split at h
    · rename_i l op op' m r hx
      obtain ⟨p, rfl⟩ := asCmp2_eq hx
      simp only [Bool.and_eq_true, decide_eq_true_eq, Bool.not_eq_true'] at h
      obtain ⟨⟨⟨⟨⟨rfl, rfl⟩, h1⟩, h2⟩, h3⟩, h4⟩ := h
      have ho := op_cmpD ok.ag ok.hu ok.hf o
      have ho' := op_cmpD ok.ag ok.hu ok.hf o'
      exact ⟨fun _ => PE.via (pe_chain ho ho' (iha.1.e ok h1) (ihb.1.e ok h2) (ihc.1.e ok h3) h4) fun σ H Q z => t_chain z, fun _ => PT.via (pt_chain ho ho' (iha.1.e ok h1) (ihb.1.e ok h2) (ihc.1.e ok h3) h4) fun σ H Q z => t_chain z⟩
    · cases h
  | and a b iha ihb =>
    refine ⟨fun t K W X e ok h => ?_, fun K W X es ok h => by simp [chkL] at h, fun K W X t e ok h => by simp [chkI] at h⟩
    rw [chkX] at h
    split at h
    · rename_i x y hx
      simp only [Bool.and_eq_true] at h
      refine ⟨fun ht => ?_, fun ht => ?_⟩
      · subst ht
        rcases asAnd_eq hx with ⟨p, rfl⟩ | ⟨a', b', r, p, rfl, rfl⟩
        · exact PE.via (pe_and (iha.1.e ok h.1) (pe_one (ihb.1.e ok h.2))) fun σ H Q z => t_and z
        · exact PE.via (pe_and (iha.1.e ok h.1) (ihb.1.e ok h.2)) fun σ H Q z => t_and z
      · subst ht
        rcases asAnd_eq hx with ⟨p, rfl⟩ | ⟨a', b', r, p, rfl, rfl⟩
        · exact PT.via (pw_and (iha.1.t ok h.1) (pw_and1 (ihb.1.t ok h.2))).pt fun σ H Q z => tt_and z
        · exact PT.via (pw_and (iha.1.t ok h.1) (pw_bool (ihb.1.t ok h.2))).pt fun σ H Q z => tt_and z
    · cases h
  | or a b iha ihb =>
    refine ⟨fun t K W X e ok h => ?_, fun K W X es ok h => by simp [chkL] at h, fun K W X t e ok h => by simp [chkI] at h⟩
    rw [chkX] at h
    split at h
    · rename_i x y hx
      simp only [Bool.and_eq_true] at h
      refine ⟨fun ht => ?_, fun ht => ?_⟩
      · subst ht
        rcases asOr_eq hx with ⟨p, rfl⟩ | ⟨a', b', r, p, rfl, rfl⟩
        · exact PE.via (pe_or (iha.1.e ok h.1) (pe_one (ihb.1.e ok h.2))) fun σ H Q z => t_or z
        · exact PE.via (pe_or (iha.1.e ok h.1) (ihb.1.e ok h.2)) fun σ H Q z => t_or z
      · subst ht
        rcases asOr_eq hx with ⟨p, rfl⟩ | ⟨a', b', r, p, rfl, rfl⟩
        · exact PT.via (pw_or (iha.1.t ok h.1) (pw_or1 (ihb.1.t ok h.2))).pt fun σ H Q z => tt_or z
        · exact PT.via (pw_or (iha.1.t ok h.1) (pw_bool (ihb.1.t ok h.2))).pt fun σ H Q z => tt_or z
    · cases h
  | not a iha =>
    refine ⟨fun t K W X e ok h => ?_, fun K W X es ok h => by simp [chkL] at h, fun K W X t e ok h => by simp [chkI] at h⟩
    rw [chkX] at h
    split at h
    · rename_i x hx
      obtain ⟨p, rfl⟩ := asUn_eq hx
      refine ⟨fun ht => ?_, fun ht => ?_⟩
      · subst ht
        exact PE.via (pe_not (iha.1.e ok h)) fun σ H Q z => t_not z
      · subst ht
        exact PT.via (pt_not (iha.1.t ok h)) fun σ H Q z => tt_not z
    · cases h
  | ite c a b ihc iha ihb =>
    refine ⟨fun t K W X e ok h => ?_, fun K W X es ok h => by simp [chkL] at h, fun K W X t e ok h => by simp [chkI] at h⟩
    rw [chkX, Bool.and_eq_true] at h
    obtain ⟨h0, h⟩ := h
    split at h
    · rename_i x y z hx
      obtain ⟨p, rfl⟩ := asIf_eq hx
      simp only [Bool.and_eq_true] at h
      exact only h0 (PE.via (pe_ifExp (ihc.1.t ok h.1.1) (iha.1.e ok h.1.2) (ihb.1.e ok h.2)) fun σ H Q z => t_ite z)
    · cases h
  | tup l ihl =>
    refine ⟨fun t K W X e ok h => ?_, fun K W X es ok h => by simp [chkL] at h, fun K W X t e ok h => by simp [chkI] at h⟩
    rw [chkX, Bool.and_eq_true, Bool.and_eq_true, decide_eq_true_eq] at h
    obtain ⟨⟨h0, hz⟩, h⟩ := h
    split at h
    · rename_i es hx
      obtain ⟨k, p, rfl⟩ := asTup_eq hx
      exact only h0 (PE.via (pe_tup (ihl.2.1 K W X es ok h).1) fun σ H Q z => t_tup hz z)
    · cases h
  | lst l ihl =>
    refine ⟨fun t K W X e ok h => ?_, fun K W X es ok h => by simp [chkL] at h, fun K W X t e ok h => by simp [chkI] at h⟩
    rw [chkX, Bool.and_eq_true, Bool.and_eq_true, decide_eq_true_eq] at h
    obtain ⟨⟨h0, hz⟩, h⟩ := h
    split at h
    · rename_i es hx
      obtain ⟨p, rfl⟩ := asLst_eq hx
      exact only h0 (PE.via (pe_lst (ihl.2.1 K W X es ok h).1) fun σ H Q z => t_lst hz z)
    · cases h
  | dic l ihl =>
    refine ⟨fun t K W X e ok h => ?_, fun K W X es ok h => by simp [chkL] at h, fun K W X t e ok h => by simp [chkI] at h⟩
    cases l with
    | nil =>
      rw [chkX, Bool.and_eq_true] at h
      obtain ⟨p, rfl⟩ := asDic0_eq h.2
      exact only h.1 (PE.via pe_dic0 fun σ H Q z => by have := t_dic0 z; rw [ok.ag.w] at this; exact this)
    | _ => simp [chkX] at h
  | idx a i iha ihi =>
    refine ⟨fun t K W X e ok h => ?_, fun K W X es ok h => by simp [chkL] at h, fun K W X t e ok h => by simp [chkI] at h⟩
    rw [chkX, Bool.and_eq_true] at h
    obtain ⟨h0, h⟩ := h
    split at h
    · rename_i x y hx
      obtain ⟨⟨p, rfl⟩, pl⟩ := asSub_eq hx
      simp only [Bool.and_eq_true] at h
      exact both h0 (PE.via (pe_ix (ix_D ok.ag ok.hu) (iha.1.e ok h.1) (ihi.1.e ok h.2) pl) fun σ H Q z => t_idx z)
    · cases h
  | rix a i iha ihi =>
    refine ⟨fun t K W X e ok h => ?_, fun K W X es ok h => by simp [chkL] at h, fun K W X t e ok h => by simp [chkI] at h⟩
    rw [chkX, Bool.and_eq_true] at h
    obtain ⟨h0, h⟩ := h
    split at h
    · rename_i x y hx
      obtain ⟨⟨p, rfl⟩, pl⟩ := asSub_eq hx
      simp only [Bool.and_eq_true] at h
      exact both h0 (PE.via (pe_ix (ix_D ok.ag ok.hu) (iha.1.e ok h.1) (ihi.1.e ok h.2) pl) fun σ H Q z => t_rix z)
    · cases h
  | slce a lo hi iha ihl ihh =>
    refine ⟨fun t K W X e ok h => ?_, fun K W X es ok h => by simp [chkL] at h, fun K W X t e ok h => by simp [chkI] at h⟩
    rw [chkX, Bool.and_eq_true] at h
    obtain ⟨h0, h⟩ := h
    split at h
    · rename_i x l hh hx
      obtain ⟨p, q, rfl⟩ := asSlc_eq hx
      simp only [Bool.and_eq_true] at h
      obtain ⟨⟨h1, h2⟩, h3⟩ := h
      have part : ∀ {c : CE} {o : Option Expr}, SndX S T c → (match o with | none => isNilC c | some l => !isNilC c && chkX c false K l) = true → PO X o (tO S W T c) := fun {c o} ih hq => by
        cases o with
        | none =>
          have hq : isNilC c = true := hq
          unfold tO
          rw [if_pos hq]
          exact po_none
        | some l =>
          have hq : (!isNilC c && chkX c false K l) = true := hq
          simp only [Bool.and_eq_true, Bool.not_eq_true'] at hq
          unfold tO
          rw [if_neg (by rw [hq.1]; exact Bool.false_ne_true)]
          exact po_some (ih.e ok hq.2)
      exact only h0 (PE.via (pe_slice (sl_D ok.ag) (iha.1.e ok h1) (part ihl.1 h2) (part ihh.1 h3)) fun σ H Q z => t_slce z)
    · cases h
  | call f l ihl =>
    refine ⟨fun t K W X e ok h => ?_, fun K W X es ok h => by simp [chkL] at h, fun K W X t e ok h => by simp [chkI] at h⟩
    rw [chkX, Bool.and_eq_true] at h
    obtain ⟨h0, h⟩ := h
    split at h
    · rename_i x es hx
      obtain ⟨p, q, rfl⟩ := asCall_eq hx
      simp only [Bool.and_eq_true, decide_eq_true_eq] at h
      obtain ⟨⟨⟨h1, h2⟩, h3⟩, h4⟩ := h
      obtain ⟨k, adr, fd, ps, g1, g2, g3, g4, g5, g6, g7⟩ := ok.fns x f h3
      obtain ⟨p1, p2, p3⟩ := ihl.2.1 K W X es ok h4
      cases es with
      | nil =>
        have el : l = .nil := by
          cases l <;> simp [chkL] at h4 <;> rfl
        subst el
        exact both h0 (PE.via (pe_own0 ok.tk g1 g2 (ok.gl h1) g4 g5 g6 (nameOk_1 h2)) fun σ H Q z => t_nil (t_call z))
      | cons e es => exact both h0 (PE.via (pe_own ok.tk g1 g2 (ok.gl h1) g4 g5 g6 p1 (nameOk_1 h2) p2 (by simp)) fun σ H Q z => t_call z)
    · cases h
  | blt b a iha =>
    refine ⟨fun t K W X e ok h => ?_, fun K W X es ok h => by simp [chkL] at h, fun K W X t e ok h => by simp [chkI] at h⟩
    have plain : ∀ (hb : ∀ t, b ≠ .isa t) (hb2 : b ≠ .sortSet) (hb3 : b ≠ .lenSet), chkX (.blt b a) t K e = true → (t = false → PE X e (tE S W T (.blt b a))) ∧ (t = true → PT X e (tT S W T (.blt b a))) := by
      clear h
      intro hb hb2 hb3 h
      replace h : ((!t || plainT e) && (match (generalizing := false) asCall e with
        | some (x, [v]) => decide (x = bname b) && decide (x ≠ "") && glb K x && !isStarred v && chkX a false K v
        | _ => false)) = true := by
        cases b <;> first | exact absurd rfl (hb _) | exact absurd rfl hb2 | exact absurd rfl hb3 | (rw [chkX] at h <;> first | exact h | (intro z hz; cases hz) | (intro z; cases z))
      rw [Bool.and_eq_true] at h
      obtain ⟨h0, h⟩ := h
      split at h
      · rename_i x v hx
        obtain ⟨p, q, rfl⟩ := asCall_eq hx
        simp only [Bool.and_eq_true, decide_eq_true_eq, Bool.not_eq_true'] at h
        obtain ⟨⟨⟨⟨rfl, h1⟩, h2⟩, h3⟩, h4⟩ := h
        exact both h0 (ok_blt ok h1 h2 h3 (iha.1.e ok h4))
      · cases h
    cases b with
    | isa ty =>
      rw [chkX, Bool.and_eq_true] at h
      obtain ⟨h0, h⟩ := h
      split at h
      · rename_i x v y hx
        obtain ⟨p, q, rfl⟩ := asCall_eq hx
        simp only [Bool.and_eq_true, decide_eq_true_eq, Bool.not_eq_true'] at h
        obtain ⟨⟨⟨⟨⟨rfl, h1⟩, h2⟩, h3⟩, h4⟩, h5⟩ := h
        obtain ⟨p2, rfl⟩ := asName_eq h2
        exact both h0 (ok_isa ok h1 h3 h4 (iha.1.e ok h5))
      · cases h
    | sortSet =>
      rw [chkX, Bool.and_eq_true] at h
      obtain ⟨h0, h⟩ := h
      split at h
      · rename_i x v hx
        obtain ⟨p, q, rfl⟩ := asCall_eq hx
        simp only [Bool.and_eq_true, decide_eq_true_eq, Bool.not_eq_true'] at h
        obtain ⟨⟨⟨rfl, h1⟩, h2⟩, h3⟩ := h
        split at h3
        · rename_i u hu
          obtain ⟨p2, q2, rfl⟩ := asSet_eq hu
          simp only [Bool.and_eq_true, Bool.not_eq_true'] at h3
          obtain ⟨⟨h4, h5⟩, h6⟩ := h3
          have inner := pe_callTy (p := p2) (pos := q2) (cr_set ok.ag ok.hd ok.hu) (ok.gl h4) (ok.bl _ (by decide)) PyProof.Rows.boot_set (pa_cons (iha.1.e ok h6) pa_nil (star_cons h5)) (by decide) (by decide) (star_cons h5) (by simp [starEach, backTo])
          have outer := pe_callB (p := p) (pos := q) (bl_sortset ok.ag ok.hd ok.hu) (ok.gl h1) (ok.bl _ (by decide)) (str_boot .sorted (by decide)).1 (pa_cons inner pa_nil (star_cons h2)) (by decide) (by decide) (star_cons h2) (by simp [starEach, backTo])
          exact both h0 (PE.via outer fun σ H Q z => tE.imp (t_blt z) fun x H1 z => r_sortset z)
        · cases h3
      · cases h
    | lenSet =>
      rw [chkX, Bool.and_eq_true] at h
      obtain ⟨h0, h⟩ := h
      split at h
      · rename_i x v hx
        obtain ⟨p, q, rfl⟩ := asCall_eq hx
        simp only [Bool.and_eq_true, decide_eq_true_eq, Bool.not_eq_true'] at h
        obtain ⟨⟨⟨rfl, h1⟩, h2⟩, h3⟩ := h
        split at h3
        · rename_i u hu
          obtain ⟨p2, q2, rfl⟩ := asSet_eq hu
          simp only [Bool.and_eq_true, Bool.not_eq_true'] at h3
          obtain ⟨⟨h4, h5⟩, h6⟩ := h3
          have inner := pe_callTy (p := p2) (pos := q2) (cr_set ok.ag ok.hd ok.hu) (ok.gl h4) (ok.bl _ (by decide)) PyProof.Rows.boot_set (pa_cons (iha.1.e ok h6) pa_nil (star_cons h5)) (by decide) (by decide) (star_cons h5) (by simp [starEach, backTo])
          have outer := pe_callB (p := p) (pos := q) (bl_lenset (S := S)) (ok.gl h1) (ok.bl _ (by decide)) (str_boot .len (by decide)).1 (pa_cons inner pa_nil (star_cons h2)) (by decide) (by decide) (star_cons h2) (by simp [starEach, backTo])
          exact both h0 (PE.via outer fun σ H Q z => tE.imp (t_blt z) fun x H1 z => r_lenset z)
        · cases h3
      · cases h
    | _ => exact plain (fun t z => by cases z) (fun z => by cases z) (fun z => by cases z) h
  | rev2 a n iha =>
    refine ⟨fun t K W X e ok h => ?_, fun K W X es ok h => by simp [chkL] at h, fun K W X t e ok h => by simp [chkI] at h⟩
    rw [chkX, Bool.and_eq_true] at h
    obtain ⟨h0, h⟩ := h
    split at h
    · rename_i x m hx
      simp only [Bool.and_eq_true, decide_eq_true_eq] at h
      obtain ⟨rfl, h1⟩ := h
      rcases asStp_eq hx with ⟨rfl, k, p1, p2, p3, q, rfl⟩ | ⟨rfl, k, p1, p2, q, rfl⟩ | ⟨m, rfl, k, p, k2, p2, p3, q, rfl⟩
      · exact only h0 (pe_stp0 ok.ag (iha.1.e ok h1))
      · exact only h0 (pe_stp1 ok.ag (iha.1.e ok h1))
      · exact only h0 (pe_stp2 ok.ag (iha.1.e ok h1))
    · cases h
  | isx a c iha =>
    refine ⟨fun t K W X e ok h => ?_, fun K W X es ok h => by simp [chkL] at h, fun K W X t e ok h => by simp [chkI] at h⟩
    rw [chkX, Bool.and_eq_true] at h
    obtain ⟨h0, h⟩ := h
    split at h
    · rename_i x v y hx
      obtain ⟨p, q, rfl⟩ := asCall_eq hx
      simp only [Bool.and_eq_true, decide_eq_true_eq, Bool.not_eq_true'] at h
      obtain ⟨⟨⟨⟨rfl, h1⟩, h2⟩, h3⟩, h4⟩ := h
      split at h2
      · rename_i cn hy
        obtain ⟨p2, rfl⟩ := asName_eq hy
        simp only [Bool.and_eq_true, decide_eq_true_eq] at h2
        exact both h0 (ok_isx ok h1 h2.1.1 h2.1.2 h2.2 h3 (iha.1.e ok h4))
      · cases h2
    · cases h
  | sortk f ks a iha =>
    refine ⟨fun t K W X e ok h => ?_, fun K W X es ok h => by simp [chkL] at h, fun K W X t e ok h => by simp [chkI] at h⟩
    rw [chkX, Bool.and_eq_true] at h
    obtain ⟨h0, h⟩ := h
    split at h
    · rename_i v g hx
      obtain ⟨p, p2, kp, q, rfl, hs⟩ := asSortk_eq hx
      simp only [Bool.and_eq_true, decide_eq_true_eq] at h
      obtain ⟨⟨⟨⟨h1, h2⟩, h3⟩, h4⟩, h5⟩ := h
      obtain ⟨k, adr, fd, ps, g1, g2, g3, g4, g5, g6, g7⟩ := ok.fns g f h4
      have hc := bl_sortk ok.ag ok.hu ok.hd g1 g6 g3
      cases ks with
      | false =>
        exact only h0 (PE.via (pe_sortk hc (ok.gl h1) (ok.bl _ (by decide)) (by decide +kernel) (iha.1.e ok h5) (by rw [star_cons hs]; simp [starEach]) (ok.gl h2) g4 (nameOk_1 h3)) fun σ H Q z => t_sortk z)
      | true =>
        dsimp only at h5
        split at h5
        · rename_i o n hm
          obtain ⟨ap, cp, rfl, hl, po⟩ := asMeth0_eq hm
          simp only [Bool.and_eq_true, decide_eq_true_eq] at h5
          obtain ⟨rfl, h6⟩ := h5
          exact only h0 (PE.via (pe_sortk hc (ok.gl h1) (ok.bl _ (by decide)) (by decide +kernel) (pe_keys (iha.1.e ok h6) (plainO_eq po _ _) hl) (by rw [star_cons hs]; simp [starEach]) (ok.gl h2) g4 (nameOk_1 h3)) fun σ H Q z => t_sortkK z)
        · cases h5
    · cases h
  | mth m o a iho iha =>
    refine ⟨fun t K W X e ok h => ?_, fun K W X es ok h => by simp [chkL] at h, fun K W X t e ok h => by simp [chkI] at h⟩
    replace h : ((!t || plainT e) && (match (generalizing := false) asMeth1 e with
      | some (x, n, y) => decide (n = (match (generalizing := false) m with | .index => "index" | .count => "count" : Str)) && chkX o false K x && chkX a false K y
      | none => false)) = true := by cases m <;> (rw [chkX] at h; exact h)
    rw [Bool.and_eq_true] at h
    obtain ⟨h0, h⟩ := h
    split at h
    · rename_i x n y hx
      obtain ⟨ap, cp, rfl, hl, po, hs⟩ := asMeth1_eq hx
      simp only [Bool.and_eq_true, decide_eq_true_eq] at h
      obtain ⟨⟨rfl, h1⟩, h2⟩ := h
      have args : PA X [y] (tCons (tE S W T a) tNil) := pa_cons (iha.1.e ok h2) pa_nil (star_cons hs)
      have via : ∀ σ H Q, tE S W T (.mth m o a) σ H Q → tBX X "list" (r2m S (mthD m)) (tE S W T o) (tCons (tE S W T a) tNil) σ H Q := fun σ H Q z => tE.imp (t_mth z) fun x H1 ⟨⟨p, vs, ep, hp⟩, z⟩ => ⟨by subst ep; rw [ok.ag.K] at hp; exact tyIs_list hp, z⟩
      cases m with
      | index => exact both h0 (PE.via (pe_bmX F.plainAttrs_list F.slot_list_index (by first | exact F.type_list_index | decide +kernel) (m_index ok) (iho.1.e ok h1) args (plainO_eq po _ _) (all_few hs) hl (star_cons hs) (by simp [starEach, backTo])) via)
      | count => exact both h0 (PE.via (pe_bmX F.plainAttrs_list F.slot_list_count (by first | exact F.type_list_count | decide +kernel) (m_count ok) (iho.1.e ok h1) args (plainO_eq po _ _) (all_few hs) hl (star_cons hs) (by simp [starEach, backTo])) via)
    · cases h
  | lc vs tg it c e' ihit ihc ihe =>
    refine ⟨fun t K W X e ok h => ?_, fun K W X es ok h => by simp [chkL] at h, fun K W X t e ok h => by simp [chkI] at h⟩
    rw [chkX, Bool.and_eq_true] at h
    obtain ⟨h0, h⟩ := h
    split at h
    · rename_i elt tx iter ifs sc hx
      obtain ⟨p, rfl⟩ := asLc_eq hx
      simp only [Bool.and_eq_true] at h
      obtain ⟨⟨⟨⟨⟨⟨h1, h2⟩, h3⟩, h4⟩, h5⟩, h6⟩, h7⟩ := h
      have own2 : (ownL K vs).map (·.2) = vs := by unfold ownL; rw [List.map_map]; exact List.map_id' vs
      have bk : BlkOk X.N X.env.scope sc (ownL K vs) := by rw [ok.N, ok.sc]; exact blkOk_by h1
      have hv : ∀ i ∈ tgIs tg, i ∈ vs := fun i hi => of_decide_eq_true (List.all_eq_true.mp h2 i hi)
      have build : ∀ tst, (tst = false → c = .bl true) → (∀ (s : Shared) (H : Hp) (C : Addr) (cl : List (Str × Addr)) (fp : List Addr), PTs (X.blk s H sc (compEnvC sc cl C X.env) fp) ifs (tTs S T c tst)) → PE X (.ListComp elt [⟨tx, iter, ifs, 0⟩] sc p) (tE S W T (.lc vs tg it c e')) := fun tst hc ht => by
        have := pe_lc (pos := p) (g := gD X.K tg) ok.calm ok.nd (ihit.2.2 K W X tx iter ok h4) bk (fun s H C cl fp => ok_tg (ok.blk sc s H C cl fp) h3) ht (fun s H C cl fp => ihe.1.e (ok.blk sc s H C cl fp) h6) (notSet_eq h5 _)
        rw [own2] at this
        refine PE.via this fun σ H Q z => ?_
        have z := t_lc hv hc z
        rw [ok.ag.K] at z
        exact z
      split at h7
      · exact only h0 (build false (fun _ => by
          unfold isTrueC at h7
          split at h7
          · rfl
          · cases h7) fun s H C cl fp => pts_nil)
      · exact only h0 (build true (fun z => by cases z) fun s H C cl fp => pts_one (ihc.1.t (ok.blk sc s H C cl fp) h7))
      · cases h7
    · cases h
  | lc2 vs tg it c vs' tg' it' c' e' ihit ihc ihit' ihc' ihe =>
    refine ⟨fun t K W X e ok h => ?_, fun K W X es ok h => by simp [chkL] at h, fun K W X t e ok h => by simp [chkI] at h⟩
    obtain ⟨h0, l, p, tst, tst', rfl, hv, hv', hvv, own2, hc, hc', q1, q2, q3, q4, q5, q6, q7, q8, q9, q10⟩ := lc2_parts ihit.2.2 ihc.1 ihit'.2.2 ihc'.1 ihe.1 ok h
    have := pe_lc2 (pos := p) (g := gD X.K tg) (g1 := gD X.K tg') (vs1 := vs') ok.calm ok.nd q1 q2 hvv q3 q4 q5 q6 q7 q8 q9 q10
    rw [own2] at this
    refine only h0 (PE.via this fun σ H Q z => ?_)
    have z := t_lc2 hv hv' hc hc' z
    rw [ok.ag.K] at z
    exact z
  | iv a iha =>
    refine ⟨fun t K W X e ok h => by simp [chkX] at h, fun K W X es ok h => by simp [chkL] at h, fun K W X t e ok h => ?_⟩
    rw [chkI] at h
    exact PI.via (PI.bd (pi_seq (iha.1.e ok h))) fun σ H R z => by have := t_iv z; rw [ok.ag.K] at this; exact this
  | ir l ihl =>
    refine ⟨fun t K W X e ok h => by simp [chkX] at h, fun K W X es ok h => by simp [chkL] at h, fun K W X t e ok h => ?_⟩
    rw [chkI] at h
    split at h
    · rename_i x es hx
      obtain ⟨p, q, rfl⟩ := asCall_eq hx
      simp only [Bool.and_eq_true, Bool.or_eq_true, decide_eq_true_eq] at h
      obtain ⟨⟨⟨rfl, h1⟩, h2⟩, h3⟩ := h
      obtain ⟨p1, p2, p3⟩ := ihl.2.1 K W X es ok h3
      rcases h2 with h2 | h2
      · match es, p3.trans h2, p1, p2 with
        | [a], _, p1, p2 => exact PI.via (pi_range1 (ok.gl h1) (ok.bl _ (by decide)) p1 (by rw [star_cons (p2 a (by simp))]; simp [starEach])) fun σ H R z => t_ir1 h2 z
      · match es, p3.trans h2, p1, p2 with
        | [a, b], _, p1, p2 => exact PI.via (pi_range2 (ok.gl h1) (ok.bl _ (by decide)) p1 (by rw [star_cons (p2 a (by simp)), star_cons (p2 b (by simp))]; simp [starEach]) (by rw [star_cons (p2 b (by simp))]; simp [starEach])) fun σ H R z => t_ir2 h2 z
    · cases h
  | iz l ihl =>
    refine ⟨fun t K W X e ok h => by simp [chkX] at h, fun K W X es ok h => by simp [chkL] at h, fun K W X t e ok h => ?_⟩
    rw [chkI, Bool.and_eq_true] at h
    obtain ⟨h0, h⟩ := h
    split at h
    · rename_i x es hx
      obtain ⟨p, q, rfl⟩ := asCall_eq hx
      simp only [Bool.and_eq_true, decide_eq_true_eq] at h
      obtain ⟨⟨⟨rfl, h1⟩, h2⟩, h3⟩ := h
      obtain ⟨p1, p2, p3⟩ := ihl.2.1 K W X es ok h3
      cases t <;> first | (simp [isTupE] at h0; done) | skip
      match es, p3.trans h2, p1, p2 with
      | [a, b], _, p1, p2 => exact PI.via (PI.bd (RZ.pi_zipA (ok.gl h1) (ok.bl _ (by decide)) p1 (star_cons (p2 a (by simp))) (star_plain (fun y hy => p2 y (List.mem_cons_of_mem _ hy)) _))) fun σ H R z => by have := t_iz z; rw [ok.ag.K] at this; exact this
    · cases h
  | ie l ihl =>
    refine ⟨fun t K W X e ok h => by simp [chkX] at h, fun K W X es ok h => by simp [chkL] at h, fun K W X t e ok h => ?_⟩
    rw [chkI, Bool.and_eq_true] at h
    obtain ⟨h0, h⟩ := h
    split at h
    · rename_i x es hx
      obtain ⟨p, q, rfl⟩ := asCall_eq hx
      simp only [Bool.and_eq_true, decide_eq_true_eq] at h
      obtain ⟨⟨⟨rfl, h1⟩, h2⟩, h3⟩ := h
      obtain ⟨p1, p2, p3⟩ := ihl.2.1 K W X es ok h3
      cases t <;> first | (simp [isTupE] at h0; done) | skip
      match es, p3.trans h2, p1, p2 with
      | [a], _, p1, p2 => exact PI.via (PI.bd (pi_enumT (ok.gl h1) (ok.bl _ (by decide)) p1 (by rw [star_cons (p2 a (by simp))]; simp [starEach]))) fun σ H R z => by have := t_ie z; rw [ok.ag.K] at this; exact this
    · cases h
  | dead =>
    have no : ∀ {W σ H Q}, ¬ tE S W T .dead σ H Q := fun ⟨_, _, _, _, _, p⟩ => by simp [evE, PostE] at p
    refine ⟨fun t K W X e ok h => ⟨fun _ => ⟨fun pins s σ H Q I q => (no q).elim⟩, fun _ => ⟨fun pins s σ H Q I q => (no q).elim⟩⟩, fun K W X es ok h => by simp [chkL] at h, fun K W X t e ok h => ⟨fun pins s σ H R I q => ?_⟩⟩
    obtain ⟨_, _, _, _, _, p⟩ := q
    simp [evI, PostI] at p
  | _ => exact ⟨fun t K W X e ok h => by simp [chkX] at h, fun K W X es ok h => by simp [chkL] at h, fun K W X t e ok h => by simp [chkI] at h⟩
end
end R
end
section
set_option Elab.async false
set_option linter.all false
set_option maxRecDepth 100000
/-! RK4: statements against the row's own syntax. -/
namespace R
open PySem PySem.Spec PyProof.Rows L2
/-- what a, b = x, y stores -/
def swp (sc : Scope) (ts vs : List Expr) : Option (Option (List Str)) :=
  if (!(ts.length == 2 || ts.length == 3) || vs.length != ts.length) = true then some none
  else if vs.any isStarred = true then some none
  else
    let line := (ts.head?.map (·.pos.line)).getD 0
    let names := ts.filterMap fun
      | .Name id pos => if (sc.names.lookup id == some .local && pos.line == line) = true then some id else none
      | _ => none
    if (names.length != ts.length || names.eraseDups.length != names.length) = true then some none
    else if vs.all (foldedForSure 8) = true then some none
    else if vs.all (constantsAlone 8) = true then none
    else some (some names)
theorem star_fun : (fun e : Expr => match e with | .Starred .. => true | _ => false) = isStarred := funext fun e => by cases e <;> rfl
theorem swp_eq {env : Env} {ts vs : List Expr} {k k2 : Nat} {p p2 : Pos} {r : Option (List Str)} (hk : env.scope.kind = .function) (h : swp env.scope ts vs = some r) : swappedStores [.Tuple ts k p] (.Tuple vs k2 p2) env = pure r := by
  have hb : env.blockKind = .function := by unfold Env.blockKind; rw [hk]; rfl
  unfold swp at h
  unfold swappedStores
  have e0 : (!(ts.length == 2 || ts.length == 3) || vs.length != ts.length || env.blockKind != .function) = (!(ts.length == 2 || ts.length == 3) || vs.length != ts.length) := by rw [hb]; simp
  dsimp only
  rw [e0]
  by_cases h1 : (!(ts.length == 2 || ts.length == 3) || vs.length != ts.length) = true
  · rw [if_pos h1] at h
    rw [if_pos h1]
    cases h; rfl
  · rw [if_neg h1] at h
    rw [if_neg h1]
    split
    · rename_i hq
      have h2 : vs.any isStarred = true := Eq.trans (by congr 1; try (funext e; cases e <;> rfl)) hq
      rw [if_pos h2] at h
      cases h; rfl
    · rename_i hq
      have h2 : ¬ vs.any isStarred = true := fun z => hq (Eq.trans (by congr 1; try (funext e; cases e <;> rfl)) z)
      rw [if_neg h2] at h
      dsimp only at h
      have key : ∀ (names names' : List Str), names = names' → ∀ r, (if (names.length != ts.length || names.eraseDups.length != names.length) = true then some none else if vs.all (foldedForSure 8) = true then some none else if vs.all (constantsAlone 8) = true then none else some (some names)) = some r →
          ((do
            if (names'.length != ts.length || names'.eraseDups.length != names'.length) = true then return none
            if vs.all (foldedForSure 8) = true then return none
            if vs.all (constantsAlone 8) = true then unsupported "assign.tuple-of-constant-expressions:order-of-the-stores"
            return some names') : Sem (Option (List Str))) = pure r := by
        rintro names _ rfl r h
        by_cases c1 : (names.length != ts.length || names.eraseDups.length != names.length) = true
        · rw [if_pos c1] at h ⊢
          cases h; rfl
        · rw [if_neg c1] at h
          rw [if_neg c1]
          by_cases c2 : vs.all (foldedForSure 8) = true
          · rw [if_pos c2] at h
            dsimp only
            rw [if_pos c2]
            cases h; rfl
          · rw [if_neg c2] at h
            dsimp only
            rw [if_neg c2]
            by_cases c3 : vs.all (constantsAlone 8) = true
            · rw [if_pos c3] at h
              cases h
            · rw [if_neg c3] at h
              rw [if_neg c3]
              cases h
              rfl
      exact key _ _ (by
        congr 1
        try (funext e; cases e <;> rfl)) r h
/-- the value is no comprehension -/
def notComp : Expr → Bool
  | .ListComp _ _ _ _ | .SetComp _ _ _ _ | .DictComp _ _ _ _ _ => false
  | _ => true
theorem swaps_no {v : Expr} {t : Option Expr} {l : Nat} {env : Env} (h : notComp v = true) : swapsWith v t l env = pure false := by
  cases v <;> first | (simp [notComp] at h; done) | rfl
theorem swaps_sub {v o i : Expr} {p : Pos} {l : Nat} {env : Env} : swapsWith v (some (.Subscript o i p)) l env = pure false := by
  cases v <;> rfl
theorem swaps_tup {v : Expr} {es : List Expr} {k : Nat} {p : Pos} {l : Nat} {env : Env} : swapsWith v (some (.Tuple es k p)) l env = pure false := by
  cases v <;> rfl
theorem stores_sub {v o i : Expr} {p : Pos} {env : Env} : swappedStores [.Subscript o i p] v env = pure none := by
  cases v <;> rfl
theorem stores_no {v : Expr} {es : List Expr} {k : Nat} {p : Pos} {env : Env} (h : asTup v = none) : swappedStores [.Tuple es k p] v env = pure none := by
  cases v <;> first | (simp [asTup] at h; done) | rfl
end R
end
section
set_option Elab.async false
set_option linter.all false
set_option maxRecDepth 100000
/-! RT1: try .. except X as n, the caught object kept in sight behind it. -/
namespace R
open PySem PySem.Spec PyProof.Rows L2
def wKeep (K : PySem.W.Frag) (c : Value) (i : Nat) (ts : Addr → Value → Option Addr → TS) (Wout : WX) (D : Ends) : WX := fun cls d σ H =>
  ∃ b, PySem.W.exmOne K cls c = some b ∧ (b = true → ∀ a, H a = none → ts a cls d { nx := fun σ' H' => H' a = none → D.nx (σ'.set i none) (upd H' a (exK cls d a)), rt := fun _ _ => False } (σ.set i (some (.ref a))) H) ∧ (b = false → Wout cls d σ H)
section
variable {X : Cx} {x n : Str} {c : Value} {i : Nat} {body suite : List Stmt} {b₀ : Stmt} {np pos pos' : Pos} {tb : WX → TS} {ts : Addr → Value → Option Addr → TS} {Wout : WX} {pins : List (Addr × Obj)} {σ : L2.St} {H : Hp} {s : Shared}
/-- the caught object, tracked from the suite's end on -/
theorem keep_caught {a : Addr} {oe : Obj} {vs : Array Value} {cls : Value} {d : Option Addr} (J : Inv X pins σ H s) (na : H a = none) (nL : a ≠ X.env.locals) (h0 : X.s_0.heap.get? a = none) (ho : s.heap.get? a = some oe) (hz : Zc cls d oe) (hd : oe.data = .fields vs) (hp : ∀ p ∈ X.pn ++ pins, p.1 ≠ a) :
    Inv X pins σ (upd H a (exK cls d a)) s := by
  refine inv_track0 J na nL (fun y c e z => ?_) hp h0 ⟨⟨oe, vs, ho, hz, hd⟩, ⟨oe, ho⟩, fun h1 h2 ⟨o, w, g1, g2⟩ k => ⟨o, w, k o g1, g2⟩⟩
  obtain ⟨v, o, g1, g2⟩ := J.cell y c e
  rw [z, ho] at g1
  cases g1
  rw [hd] at g2
  cases g2
theorem ps_try_keep (hs : X.stack = X.env :: X.outer) (hf : X.env.frame = some X.env.locals) (hex : X.ex = []) (hN : X.N.Nodup) (hi : X.N[i]? = some n) (hln : X.env.kindOf n = some .local) (hc : Names X x c) (tk : Takes X Wout)
    (hb : ∀ (W : WX) (pn : List (Addr × Obj)) (xe : Value → Shared → Prop), Takes (X.tr pn xe) W → PassesOwn (model X.prog X.w) X.A X.env xe → PSs (X.tr pn xe) body (tb W))
    (hsu : ∀ (a : Addr) (oe : Obj) (cls : Value) (d : Option Addr) (pn : List (Addr × Obj)), Zc cls d oe → (∃ vs, oe.data = .fields vs) → PSs (X.suite a ((a, oe) :: pn)) (b₀ :: suite) (ts a cls d)) :
    PS X (.Try body [.ExceptHandler (some (.Name x np)) (some n) (b₀ :: suite) pos'] [] [] pos) (fun D σ H => tb (wKeep X.K c i ts Wout D) D σ H) := by
  refine ⟨fun pins s σ H D I h => ?_⟩
  have ok := I.ok
  have frames2 : X.A.frames = some (X.env :: X.outer) := by rw [ok.frames, hs]
  refine wpAny_Try_except ?_
  have hTry := (hb (wKeep X.K c i ts Wout D) (X.pn ++ pins) (fun e s₁ => wpAny (model X.prog X.w) X.A (noteFrame e X.env) (fun _ s₂ => wpAny (model X.prog X.w) X.A (setFlight e none) (fun _ s₃ =>
    wpAny (model X.prog X.w) X.A (handleBy e X.env [.ExceptHandler (some (.Name x np)) (some n) (b₀ :: suite) pos']) (SP X pins D) X.xe s₃) X.xe s₂) X.xe s₁) (fun u s' xx => ?_) PassesOwn.looking).run [] s σ H D (I.toTry _) h
  · refine wpAny_mono hTry (fun f s1 hsp => ?_) fun e s1 he => he
    cases f with
    | next => exact let ⟨σ', H', J', q⟩ := hsp; wpAny_execs_nil ⟨σ', H', J'.ofTry ok, q⟩
    | brk => exact let ⟨σ', H', J', q⟩ := hsp; ⟨σ', H', J'.ofTry ok, q⟩
    | cont => exact let ⟨σ', H', J', q⟩ := hsp; ⟨σ', H', J'.ofTry ok, q⟩
    | ret u => exact let ⟨v, σ', H', J', r, q⟩ := hsp; ⟨v, σ', H', J'.ofTry ok, r, q⟩
  · -- what is caught
    obtain ⟨a, B, sI, pins', σ', H', cls, d, rfl, J', nb, up, sky, na, os, ag, b, hb1, hyes, hno⟩ := xx
    have J : Inv X pins σ' H' sI := J'.ofTry ok
    rw [hs] at sky
    show wpAny (model X.prog X.w) X.A (noteFrame (.ref a) X.env) _ _ _
    refine Sky.land Zc.steady frames2 hf sky fun h3 fl3 up3 => ?_
    have J3 : Inv X pins σ' H' { s' with heap := h3 } := J.landed nb fl3.1 (up.trans up3) os ag
    obtain ⟨oe3, vs3, he3, hz3, hd3⟩ := fl3.there
    have off : a ∉ frs (X.env :: X.outer) := fun hm => by
      obtain ⟨_, o', e', hnf⟩ := fl3.2.2.1.mem hm
      rw [he3] at e'; cases e'
      exact hnf _ hd3
    have nL : a ≠ X.env.locals := fun z => off (List.mem_filterMap.mpr ⟨X.env, List.mem_cons_self, by rw [hf, z]⟩)
    have nF : a ∉ X.fs := fun hm => by
      obtain ⟨e, he, q⟩ := List.mem_filterMap.mp hm
      exact off (List.mem_filterMap.mpr ⟨e, List.mem_cons_of_mem _ he, q⟩)
    -- it is younger than the entry
    have young : X.s_0.heap.get? a = none := by
      cases z : X.s_0.heap.get? a with
      | none => rfl
      | some o =>
        exfalso
        obtain ⟨o', g⟩ := J.base.there a o z (by rw [hex]; simp)
        have := nb a o' g (by rw [show (X.tr (X.pn ++ pins) _).stack = X.env :: X.outer from hs]; exact off)
        rw [fl3.2.1] at this
        cases this
    have noPin : ∀ p ∈ X.pn ++ pins, p.1 ≠ a := fun p hp z => by
      have g := (J.pin p hp).1
      rw [z] at g
      have := nb a _ g (by rw [show (X.tr (X.pn ++ pins) _).stack = X.env :: X.outer from hs]; exact off)
      rw [fl3.2.1] at this
      cases this
    have S3 := J3.suite he3 hd3 na nL nF
    refine wpAny_handleBy_cons (codeAny_handlers_test ?_) (by intro q; cases q)
    have kind : PySem.W.Looks (model X.prog X.w) h3 (typeOf (.ref a)) cls := fun A Q E s k q => wpAny_typeOf_ref (k _ _ he3) (by rw [hz3.1]; exact q)
    have says := PySem.W.exm_one (M := model X.prog X.w) (J3.kIn) kind hb1
    have test : ∀ {Q : Value → Shared → Prop} {E : Value → Shared → Prop}, Q c { s' with heap := h3 } → wpAny (model X.prog X.w) (X.A.mark (some (.ref a))) (eval (.Name x np) X.env) Q E { s' with heap := h3 } := fun {Q E} q => by
      obtain ⟨hg, hdbg, hm | ⟨hm, hv, hnn⟩⟩ := hc
      · exact ld_glob (X := X.suite a ((a, oe3) :: (X.pn ++ pins))) S3 hg hm q hdbg
      · exact ld_blt (X := X.suite a ((a, oe3) :: (X.pn ++ pins))) S3 hg hm hv q hnn hdbg
    refine test (says.here ?_)
    cases b with
    | true =>
      refine codeAny_handlers_suite_as ?_
      refine HandSPX.lands_againZ fl3 fun h4 fl4 up4 => ?_
      have J4 : Inv X pins σ' H' { s' with heap := h4 } := J.landed nb fl4.1 ((up.trans up3).trans up4) os ag
      obtain ⟨oe4, vs4, he4, hz4, hd4⟩ := fl4.there
      have S4 := J4.suite he4 hd4 na nL nF
      refine store_ok (X := X.suite a ((a, oe4) :: (X.pn ++ pins))) (v := .ref a) S4 hN hi (.inl hln) rfl (fun s5 S5 => ?_) (.inr hln)
      refine wpAny_mono ((hsu a oe4 cls d (X.pn ++ pins) hz4 ⟨_, hd4⟩).run [] s5 _ H' _ S5 (hyes rfl a na)) (fun f s6 hsp => ?_) (fun _ _ z => False.elim z)
      cases f with
      | next =>
        obtain ⟨σ6, H6, S6, q6⟩ := hsp
        obtain ⟨g1, g2, _⟩ := S6.pin (a, oe4) (List.mem_append_left _ List.mem_cons_self)
        exact gone_ok (keep_caught (S6.unsuite ok) g2 nL young g1 hz4 hd4 noPin) hN hi hln fun s7 J7 => ⟨_, _, J7, q6 g2⟩
      | brk => obtain ⟨_, _, _, q⟩ := hsp; exact False.elim q
      | cont => obtain ⟨_, _, _, q⟩ := hsp; exact False.elim q
      | ret u => obtain ⟨_, _, _, _, _, q⟩ := hsp; exact False.elim q
    | false =>
      show wpAny _ X.A (handleBy (.ref a) X.env []) _ _ _
      refine wpAny_handleBy_nil ?_
      obtain ⟨k1, k2, k3, oe, vs, T, oT, ts', he, hz, hd, h1, hr⟩ := id fl3
      unfold PySem.passOn
      refine wpAny_bind (wpAny_field he hd h1 ?_)
      rw [if_neg (show ¬ ((Value.ref T == Value.none) = true) from by simp)]
      have fin : wpAny (model X.prog X.w) X.A (setFlight (.ref a) X.env.frame) (fun _ s4 => wpAny (model X.prog X.w) X.A (throw (.ref a) : Sem Flow) (SP X pins D) X.xe s4) X.xe { s' with heap := h3 } := by
        rw [hf]
        refine HandSPX.setFlight_upZ fl3 fun h4 hh4 up4 => wpAny_throw (tk _ _ ?_)
        exact ⟨a, B, sI, pins, σ', H', cls, d, rfl, J, nb, (up.trans up3).trans up4, .inr (.inr (by rw [hs]; exact hh4)), na, os, ag, hno rfl⟩
      first
        | exact wpAny_bind (wpAny_pure (wpAny_bind fin))
        | exact wpAny_bind fin
end
section
variable {S : St0} {W : WX} {T : Tab} {H0 : Hp} {μ0 : List Addr} {Z : Ends} {σ : L2.St} {H : Hp} {G : Addr → Prop}
theorem t_tryc {i n j c : Nat} {e : CE} {cv : Value} (hc : ∀ k b, T.sub k c = some b → PySem.W.exmOne S.K (S.exv k) cv = some b) (h : tS S W T H0 μ0 G (.tryc i e c n j) Z σ H) :
    tAsg (tE S (wKeep S.K cv n (fun _ _ _ => tAsg (tVar n) (gName j)) W Z) T e) (gName i) Z σ H := by
  obtain ⟨Fz, env, w, μ, r, p⟩ := h
  refine ⟨env, w, μ, G, r.rel, ?_⟩
  rw [evS] at p
  generalize evE T e env w = x at p ⊢
  cases x with
  | none => exact p
  | some x =>
    cases x with
    | ok x w1 =>
      obtain ⟨k, d⟩ := x
      have p' : PostS S W H0 μ0 G Fz Z (obnd (some (.ok (k, d) w1)) fun x w1 => match x with
        | (.val, d) => some (.next (env.set i (.val d)) w1)
        | (.own, d) => some (.next (env.set i (.own d)) w1)
        | _ => none) := by cases k <;> exact p
      refine p'.bnd (Q := fun x H1 => gName i x σ H1 Z.nx) r fun x w1 v H1 μ1 e1 r1 v1 f1 s1 p1 => ?_
      exact asg_post r e1 r1 v1 f1 s1 p1
    | exc k q w1 =>
      cases q with
      | cons _ _ => exact False.elim p
      | nil =>
        intro dx H1 μ1 e1 r1 hx
        have hd : dx = none := hx
        subst hd
        dsimp only at p
        cases hs : T.sub k c with
        | none => rw [hs] at p; exact False.elim p
        | some b =>
          rw [hs] at p
          refine ⟨b, hc k b hs, fun hb a na => ?_, fun hb => ?_⟩
          · subst hb
            dsimp only at p
            split at p
            · rename_i hn
              simp only [Bool.and_eq_true, decide_eq_true_eq] at hn
              obtain ⟨nj, nl⟩ := hn
              have nl' : n < σ.length := by have := r.rel.len; omega
              refine ⟨.ref a, by rw [List.getElem?_set_self nl'], fun na' => ?_⟩
              have e2 : ((σ.set n (some (V.ref a))).set j (some (V.ref a))).set n none = (σ.set j (some (V.ref a))).set n none := by
                rw [List.set_comm _ _ nj, List.set_set]
              show Z.nx (((σ.set n (some (V.ref a))).set j (some (V.ref a))).set n none) _
              rw [e2]
              have s1 := r.ext e1 r1
              have sm := same_new (o := exK (S.exv k) none a) na
              have s2 : SR S H0 μ0 Fz G σ (upd H1 a (exK (S.exv k) none a)) env w1 μ1 := s1.ext (r1.ext0 sm) (r1.growG sm fun b z => .inl z)
              have na2 : ¬ BB μ1 G env σ a := fun z => by
                rcases z with z | z | ⟨q, dq, z1, z2⟩
                · exact r1.wr.cellD a z na
                · exact r1.wr.gd a (.inl z) na
                · exact r1.wr.gd a (.inr ⟨q, dq, z1, z2⟩) na
              have rp : Rep S (hide (upd H1 a (exK (S.exv k) none a)) (BB μ1 G env σ)) μ1 (.exc k []) (.ref a) := by
                simp only [Rep]
                exact ⟨a, rfl, hide_of upd_same na2⟩
              have s3 := s2.setV (i := j) rp
              exact p _ _ _ (s3.slots s3.rel.wipe1 (own_set fun e z => by cases z))
            · exact False.elim p
          · subst hb
            exact p none σ H1 μ1 (r.ext e1 r1).ext0 (r1.wr.mono fun b z => .inl z) rfl
end
end R
end
section
set_option Elab.async false
set_option linter.all false
set_option maxRecDepth 100000
/-! RK5: statements: the check and its soundness. -/
namespace R
open PySem PySem.Spec PyProof.Rows L2
def asAsg : Stmt → Option (Expr × Expr × Nat)
  | .Assign [t] v p => some (t, v, p.line)
  | _ => none
def asExpr : Stmt → Option Expr
  | .Expr e _ => some e
  | _ => none
def asAug : Stmt → Option (Str × Operator × Expr)
  | .AugAssign (.Name x _) o e _ => some (x, o, e)
  | _ => none
def asRet : Stmt → Option (Option Expr)
  | .Return e _ => some e
  | _ => none
def asIfS : Stmt → Option (Expr × List Stmt × List Stmt)
  | .If c a b _ => some (c, a, b)
  | _ => none
def asFor : Stmt → Option (Expr × Expr × List Stmt)
  | .For t i b [] _ => some (t, i, b)
  | _ => none
def asWh : Stmt → Option (Expr × List Stmt)
  | .While c b [] _ => some (c, b)
  | _ => none
def asRai : Stmt → Option Str
  | .Raise (some (.Call (.Name x _) [.Constant (.str _) _ _] [] _)) none _ => some x
  | _ => none
structure TryV where
  t : Expr
  v : Expr
  cn : Str
  en : Str
  t2 : Expr
  v2 : Expr
def asTry : Stmt → Option TryV
  | .Try [.Assign [t] v _] [.ExceptHandler (some (.Name cn _)) (some en) [.Assign [t2] v2 _] _] [] [] _ => some ⟨t, v, cn, en, t2, v2⟩
  | _ => none
def isPass : Stmt → Bool
  | .Pass _ => true
  | _ => false
def isBrk : Stmt → Bool
  | .Break _ => true
  | _ => false
def isCnt : Stmt → Bool
  | .Continue _ => true
  | _ => false
def nmAt (K : KC) (i : Nat) (e : Expr) : Bool := match asName e with
  | some x => decide (K.N[i]? = some x) && locb K x
  | none => false
/-- a comprehension stored under a local name on its own line -/
def lcStore (K : KC) (t v : Expr) : Bool := match t, v with
  | .Name y py, .ListComp _ _ sc p => decide (K.sc.names.lookup y = some .local) && py.line == p.line && !(sc.names.any fun (n, k) => n == y && (k == .local || k == .cell))
  | _, _ => false
/-- .. under a name on another line: an ordinary store -/
def lcPlain (K : KC) (t v : Expr) : Bool := match t, v with
  | .Name y py, .ListComp _ _ sc p => !((K.sc.names.lookup y == some .local) && py.line == p.line && !(sc.names.any fun (n, k) => n == y && (k == .local || k == .cell)))
  | _, _ => false
def tupOk (K : KC) (t v : Expr) : Bool := match asTup t, asTup v with
  | some ts, some vs => (match swp K.sc ts vs with | some none => true | _ => false)
  | _, _ => true
def isLcC : CE → Bool
  | .lc _ _ _ _ _ => true
  | .lc2 _ _ _ _ _ _ _ _ _ => true
  | _ => false
def aop : BOp → Option Operator
  | .add => some .Add
  | .sub => some .Sub
  | _ => none
mutual
def chk1 : CS → KC → Stmt → Bool
  | .dead, _, _ => true
  | .pass, _, st => isPass st
  | .brk, _, st => isBrk st
  | .cnt, _, st => isCnt st
  | .asg (.one i) e, K, st => (match asAsg st with
    | some (t, v, _) => nmAt K i t && chkX e false K v && (notComp v || (lcStore K t v && isLcC e) || lcPlain K t v)
    | none => false)
  | .asg (.many is) e, K, st => (match asAsg st with
    | some (t, v, _) => chkTg K (.many is) t && chkX e false K v && tupOk K t v
    | none => false)
  | .par i j l, K, st => (match asAsg st with
    | some (t, v, _) => (match asTup t, asTup v with
      | some [a, b], some [c, d] => (match asName a, asName b with
        | some x, some y => decide (K.N[i]? = some x) && decide (K.N[j]? = some y) && decide (i ≠ j) && decide (K.sc.names.lookup x = some .local) && decide (K.sc.names.lookup y = some .local) && chkL l K [c, d] && decide (swp K.sc [a, b] [c, d] = some (some [x, y]))
        | _, _ => false)
      | _, _ => false)
    | none => false)
  | .aug i o e, K, st => (match asAug st with
    | some (x, op, v) => decide (aop o = some op) && decide (K.N[i]? = some x) && locb K x && chkX e false K v
    | none => false)
  | .app i e, K, st => (match asExpr st with
    | some c => (match asMeth1 c with
      | some (o, n, v) => decide (n = "append") && (match asName o with | some x => decide (K.N[i]? = some x) && visb K x && nameOk x | none => false) && chkX e false K v
      | none => false)
    | none => false)
  | .popk i e, K, st => (match asExpr st with
    | some c => (match asMeth1 c with
      | some (o, n, v) => decide (n = "pop") && (match asName o with | some x => decide (K.N[i]? = some x) && visb K x && nameOk x | none => false) && chkX e false K v
      | none => false)
    | none => false)
  | .put i k e, K, st => (match asAsg st with
    | some (t, v, _) => (match asSub t with
      | some (o, y) => (match asName o with | some x => decide (K.N[i]? = some x) && visb K x && nameOk x | none => false) && chkX k false K y && chkX e false K v
      | none => false)
    | none => false)
  | .cput o k e, K, st => (match asAsg st with
    | some (t, v, _) => (match asSub t with
      | some (x, y) => chkX o false K x && chkX k false K y && chkX e false K v
      | none => false)
    | none => false)
  | .ex e, K, st => (match asExpr st with
    | some v => notComp v && chkX e false K v
    | none => false)
  | .ret e, K, st => (match asRet st with
    | some (some v) => chkX e false K v
    | _ => false)
  | .retn, K, st => (match asRet st with
    | some none => true
    | _ => false)
  | .ite c a b, K, st => (match asIfS st with
    | some (x, y, z) => chkX c true K x && chkS a K y && chkS b K z
    | none => false)
  | .for tg it b, K, st => (match asFor st with
    | some (t, i, y) => chkTg K tg t && chkI it K t i && notSetE i && chkS b K y
    | none => false)
  | .wh c b, K, st => (match asWh st with
    | some (x, y) => chkX c true K x && chkS b K y
    | none => false)
  | .tryc i e c n j, K, st => (match asTry st with
    | some y => nmAt K i y.t && chkX e false K y.v && notComp y.v && glb K y.cn && nameOk y.cn && decide (K.cls.lookup y.cn = some c) && decide (K.N[n]? = some y.en) && decide (K.sc.names.lookup y.en = some .local) && nmAt K j y.t2 && decide (asName y.v2 = some y.en) && nameOk y.en
    | none => false)
  | .rai c .nil, K, st => (match asRai st with
    | some x => glb K x && nameOk x && decide (K.exs.lookup x = some c)
    | none => false)
  | _, _, _ => false
def chkS : CS → KC → List Stmt → Bool
  | .dead, _, _ => true
  | .nil, _, [] => true
  | .cons (.frz i) r, K, sts => chkS r K sts
  | .cons (.shr i) r, K, sts => chkS r K sts
  | .cons a r, K, st :: sts => chk1 a K st && chkS r K sts
  | _, _, _ => false
end
structure OkS (S : St0) (W : WX) (T : Tab) (K : KC) (X : Cx) : Prop where
  ok : Okk S W T K X
  po : PassesOwn (model X.prog X.w) X.A X.env X.xe
  kd : K.sc.kind = .function
  st : X.stack = X.env :: X.outer
  fr : X.env.frame = some X.env.locals
  ex0 : X.ex = []
  exs : ∀ x c, K.exs.lookup x = some c → glb K x = true → nameOk x = true → ∃ C : Addr, S.exv c = .ref C ∧ ∀ (m : Str) (j : Nat) (p p2 pos : Pos), PMk X (.Call (.Name x p) [.Constant (.str m) j p2] [] pos) (fun _ H Q => Q (.ref C) none H)
section
variable {S : St0} {T : Tab} {K : KC} {W : WX} {X : Cx} {H0 : Hp} {μ0 : List Addr} {G : Addr → Prop}
theorem PS.via {e : Stmt} {t t' : TS} (p : PS X e t') (h : ∀ Z σ H, t Z σ H → t' Z σ H) : PS X e t := ⟨fun pins s σ H Q I q => p.run pins s σ H Q I (h Q σ H q)⟩
theorem PSs.via {e : List Stmt} {t t' : TS} (p : PSs X e t') (h : ∀ Z σ H, t Z σ H → t' Z σ H) : PSs X e t := ⟨fun pins s σ H Q I q => p.run pins s σ H Q I (h Q σ H q)⟩
theorem nmAt_eq (ok : Okk S W T K X) {i : Nat} {e : Expr} (h : nmAt K i e = true) : ∃ x p, e = .Name x p ∧ X.N[i]? = some x ∧ Loc X.env.scope x ∧ (X.fn x = true ∨ X.env.scope.names.lookup x = some .local) := by
  unfold nmAt at h
  split at h
  · rename_i x hx
    obtain ⟨p, rfl⟩ := asName_eq hx
    simp only [Bool.and_eq_true, decide_eq_true_eq] at h
    obtain ⟨l1, l2⟩ := ok.loc h.2
    exact ⟨x, p, rfl, by rw [ok.N]; exact h.1, l1, l2⟩
  · cases h
theorem own_name (ok : Okk S W T K X) {i : Nat} {o : Expr} (h : (match asName o with | some x => decide (K.N[i]? = some x) && visb K x && nameOk x | none => false) = true) : PE X o (tVar i) ∧ plainO o = true := by
  split at h
  · rename_i x hx
    obtain ⟨p, rfl⟩ := asName_eq hx
    simp only [Bool.and_eq_true, decide_eq_true_eq] at h
    exact ⟨pe_var (by rw [ok.N]; exact h.1.1) (ok.vis h.1.2) (nameOk_1 h.2) (nameOk_2 h.2), rfl⟩
  · cases h
theorem asAsg_eq {st : Stmt} {t v : Expr} {l : Nat} (h : asAsg st = some (t, v, l)) : ∃ p, st = .Assign [t] v p ∧ p.line = l := by
  unfold asAsg at h
  split at h
  · cases h; exact ⟨_, rfl, rfl⟩
  · cases h
theorem asExpr_eq {st : Stmt} {v : Expr} (h : asExpr st = some v) : ∃ p, st = .Expr v p := by
  unfold asExpr at h
  split at h
  · cases h; exact ⟨_, rfl⟩
  · cases h
theorem asAug_eq {st : Stmt} {x : Str} {o : Operator} {v : Expr} (h : asAug st = some (x, o, v)) : ∃ p q, st = .AugAssign (.Name x p) o v q := by
  unfold asAug at h
  split at h
  · cases h; exact ⟨_, _, rfl⟩
  · cases h
theorem asRet_eq {st : Stmt} {v : Option Expr} (h : asRet st = some v) : ∃ p, st = .Return v p := by
  unfold asRet at h
  split at h
  · cases h; exact ⟨_, rfl⟩
  · cases h
theorem asIfS_eq {st : Stmt} {c : Expr} {a b : List Stmt} (h : asIfS st = some (c, a, b)) : ∃ p, st = .If c a b p := by
  unfold asIfS at h
  split at h
  · cases h; exact ⟨_, rfl⟩
  · cases h
theorem asFor_eq {st : Stmt} {c d : Expr} {a : List Stmt} (h : asFor st = some (c, d, a)) : ∃ p, st = .For c d a [] p := by
  unfold asFor at h
  split at h
  · cases h; exact ⟨_, rfl⟩
  · cases h
theorem asWh_eq {st : Stmt} {c : Expr} {a : List Stmt} (h : asWh st = some (c, a)) : ∃ p, st = .While c a [] p := by
  unfold asWh at h
  split at h
  · cases h; exact ⟨_, rfl⟩
  · cases h
theorem asRai_eq {st : Stmt} {x : Str} (h : asRai st = some x) : ∃ p m j p2 q r, st = .Raise (some (.Call (.Name x p) [.Constant (.str m) j p2] [] q)) none r := by
  unfold asRai at h
  split at h
  · cases h; exact ⟨_, _, _, _, _, _, rfl⟩
  · cases h
theorem asTry_eq {st : Stmt} {y : TryV} (h : asTry st = some y) : ∃ p np p2 pos' pos, st = .Try [.Assign [y.t] y.v p] [.ExceptHandler (some (.Name y.cn np)) (some y.en) [.Assign [y.t2] y.v2 p2] pos'] [] [] pos := by
  unfold asTry at h
  split at h
  · cases h; exact ⟨_, _, _, _, _, rfl⟩
  · cases h
theorem Okk.tr (ok : Okk S W T K X) {W' : WX} {pn : List (Addr × Obj)} {xe : Value → Shared → Prop} (tk : Takes (X.tr pn xe) W') : Okk S W' T K (X.tr pn xe) :=
  ⟨⟨ok.ag.P, ok.ag.w, ok.ag.K⟩, ok.N, ok.nd, ok.sc, ok.fb, ok.calm, ok.hd, ok.hu, ok.hf, tk, ok.fns, ok.gls, ok.bl, ok.cls⟩
theorem sub_asg {o i : Expr} {p : Pos} (hi : isSlice i = false) (v : Value) : assign (.Subscript o i p) X.env v = (do
      let ov ← holding [v] (eval o X.env)
      let iv ← holding [v, ov] (eval i X.env)
      standAt p
      holding [v, ov, iv] (setItem ov iv v)
      release [v, ov, iv] []) := by
  cases i <;> first | rfl | (simp [isSlice] at hi; done)
theorem asSub_ns {e a i : Expr} (h : asSub e = some (a, i)) : isSlice i = false := by
  unfold asSub at h
  split at h
  · split at h
    · cases h
    · rename_i hs
      cases h
      simpa using hs
  · cases h
theorem meth_name {o v : Expr} {n : Str} {c : Expr} {to te : TE} {T' id : String} {r : V → List V → Hp → VK → Prop} (h : asMeth1 c = some (o, n, v)) (pa : PlainAttrs T') (slot : Slot T' n id) (hty : typeOf (.builtin id) = pure (.type "method_descriptor")) (hm : MtR X id r) (ho : PE X o to) (he : PE X v te) (po : plainO o = true) :
    PE X c (tBX X T' r to (tCons te tNil)) ∧ notComp c = true := by
  obtain ⟨ap, cp, rfl, hl, _, hs⟩ := asMeth1_eq h
  exact ⟨pe_bmX pa slot hty hm ho (pa_cons he pa_nil (star_cons hs)) (plainO_eq po _ _) (all_few hs) hl (star_cons hs) (by simp [starEach, backTo]), rfl⟩
theorem app_mt : MtR X "list.append" rAppend := fun pins s σ H x xs v us Q I rx rs q => mt_append pins s σ H x xs v us Q I rx rs q
theorem sole_tup {v : Expr} {es : List Expr} {k : Nat} {p : Pos} {l : Nat} {env : Env} : swapsWithSole [.Tuple es k p] v l env = pure false := swaps_tup (v := v) (es := es) (k := k) (p := p) (l := l) (env := env)
theorem sole_sub {v o i : Expr} {p : Pos} {l : Nat} {env : Env} : swapsWithSole [.Subscript o i p] v l env = pure false := swaps_sub (v := v) (o := o) (i := i) (p := p) (l := l) (env := env)
theorem ownL_snd {vs : List Nat} : (ownL K vs).map (·.2) = vs := by unfold ownL; rw [List.map_map]; exact List.map_id' vs
theorem lc_parts {vs : List Nat} {tg : Tg} {it c e' : CE} {v : Expr} (ok : Okk S W T K X) (h : chkX (.lc vs tg it c e') false K v = true) : ∃ elt tx iter ifs sc p tst, v = .ListComp elt [⟨tx, iter, ifs, 0⟩] sc p ∧ (∀ i ∈ tgIs tg, i ∈ vs) ∧ (tst = false → c = .bl true) ∧ PI X tx iter (tI S W T it) ∧ BlkOk X.N X.env.scope sc (ownL K vs) ∧
    (∀ (s : Shared) (H : Hp) (C : Addr) (cl : List (Str × Addr)) (fp : List Addr), PG (X.blk s H sc (compEnvC sc cl C X.env) fp) tx (gD X.K tg)) ∧
    (∀ (s : Shared) (H : Hp) (C : Addr) (cl : List (Str × Addr)) (fp : List Addr), PTs (X.blk s H sc (compEnvC sc cl C X.env) fp) ifs (tTs S T c tst)) ∧
    (∀ (s : Shared) (H : Hp) (C : Addr) (cl : List (Str × Addr)) (fp : List Addr), PE (X.blk s H sc (compEnvC sc cl C X.env) fp) elt (tE S WF T e')) ∧ ∀ x, foldedSetIterable iter X.env x = pure x := by
  rw [chkX, Bool.and_eq_true] at h
  obtain ⟨_, h⟩ := h
  split at h
  · rename_i elt tx iter ifs sc hx
    obtain ⟨p, rfl⟩ := asLc_eq hx
    simp only [Bool.and_eq_true] at h
    obtain ⟨⟨⟨⟨⟨⟨h1, h2⟩, h3⟩, h4⟩, h5⟩, h6⟩, h7⟩ := h
    have bk : BlkOk X.N X.env.scope sc (ownL K vs) := by rw [ok.N, ok.sc]; exact blkOk_by h1
    have hv : ∀ i ∈ tgIs tg, i ∈ vs := fun i hi => of_decide_eq_true (List.all_eq_true.mp h2 i hi)
    have fin : ∃ tst, (tst = false → c = .bl true) ∧ (∀ (s : Shared) (H : Hp) (C : Addr) (cl : List (Str × Addr)) (fp : List Addr), PTs (X.blk s H sc (compEnvC sc cl C X.env) fp) ifs (tTs S T c tst)) := by
      split at h7
      · refine ⟨false, fun _ => ?_, fun s H C cl fp => pts_nil⟩
        unfold isTrueC at h7
        split at h7
        · rfl
        · cases h7
      · refine ⟨true, fun z => ?_, fun s H C cl fp => pts_one ((chk_ok S T c).1.t (ok.blk sc s H C cl fp) h7)⟩
        cases z
      · cases h7
    obtain ⟨tst, hc, ht⟩ := fin
    exact ⟨elt, tx, iter, ifs, sc, p, tst, rfl, hv, hc, (chk_ok S T it).2.2 K W X tx iter ok h4, bk, fun s H C cl fp => ok_tg (ok.blk sc s H C cl fp) h3, ht, fun s H C cl fp => (chk_ok S T e').1.e (ok.blk sc s H C cl fp) h6, notSet_eq h5 _⟩
  · cases h
def Snd1 (S : St0) (T : Tab) (c : CS) : Prop := ∀ (K : KC) (W : WX) (X : Cx) (H0 : Hp) (μ0 : List Addr) (G : Addr → Prop) (st : Stmt), OkS S W T K X → chk1 c K st = true → PS X st (tS S W T H0 μ0 G c)
def SndS (S : St0) (T : Tab) (c : CS) : Prop := ∀ (K : KC) (W : WX) (X : Cx) (H0 : Hp) (μ0 : List Addr) (G : Addr → Prop) (sts : List Stmt), OkS S W T K X → chkS c K sts = true → PSs X sts (tS S W T H0 μ0 G c)
theorem chkX_e {c : CE} (ok : Okk S W T K X) {e : Expr} (h : chkX c false K e = true) : PE X e (tE S W T c) := (chk_ok S T c).1.e ok h
theorem chkX_t {c : CE} (ok : Okk S W T K X) {e : Expr} (h : chkX c true K e = true) : PT X e (tT S W T c) := (chk_ok S T c).1.t ok h
theorem chkS_cons {a r : CS} (ha : Snd1 S T a) (hr : SndS S T r) (n1 : ∀ i, a ≠ .frz i) (n2 : ∀ i, a ≠ .shr i) : SndS S T (.cons a r) := fun K W X H0 μ0 G sts ok h => by
  cases sts with
  | nil =>
    exfalso
    cases a <;> first | exact absurd rfl (n1 _) | exact absurd rfl (n2 _) | (simp [chkS] at h; done)
  | cons st sts =>
    have h : (chk1 a K st && chkS r K sts) = true := by
      cases a <;> first | exact absurd rfl (n1 _) | exact absurd rfl (n2 _) | (simpa [chkS] using h)
    rw [Bool.and_eq_true] at h
    exact PSs.via (pss_cons (ha K W X H0 μ0 G st ok h.1) (hr K W X H0 μ0 G sts ok h.2)) fun Z σ H z => t_seq z

theorem chkS_ok (S : St0) (T : Tab) : ∀ c : CS, Snd1 S T c ∧ SndS S T c := fun c => by
  induction c with
  | nil =>
    refine ⟨fun K W X H0 μ0 G st ok h => by simp [chk1] at h, fun K W X H0 μ0 G sts ok h => ?_⟩
    cases sts with
    | nil => exact PSs.via pss_nil fun Z σ H z => t_snil z
    | cons _ _ => simp [chkS] at h
  | cons a r iha ihr =>
    refine ⟨fun K W X H0 μ0 G st ok h => by simp [chk1] at h, ?_⟩
    by_cases n1 : ∃ i, a = .frz i
    · obtain ⟨i, rfl⟩ := n1
      intro K W X H0 μ0 G sts ok h
      rw [chkS] at h
      exact PSs.via (ihr.2 K W X H0 μ0 G sts ok h) fun Z σ H z => t_frz z
    · by_cases n2 : ∃ i, a = .shr i
      · obtain ⟨i, rfl⟩ := n2
        intro K W X H0 μ0 G sts ok h
        rw [chkS] at h
        exact PSs.via (ihr.2 K W X H0 μ0 G sts ok h) fun Z σ H z => t_shr z
      · exact chkS_cons iha.1 ihr.2 (fun i z => n1 ⟨i, z⟩) fun i z => n2 ⟨i, z⟩
  | pass =>
    refine ⟨fun K W X H0 μ0 G st ok h => ?_, fun K W X H0 μ0 G sts ok h => by cases sts <;> simp [chkS] at h⟩
    rw [chk1] at h
    cases st <;> first | (simp [isPass] at h; done) | exact PS.via ps_pass fun Z σ H z => t_pass z
  | brk =>
    refine ⟨fun K W X H0 μ0 G st ok h => ?_, fun K W X H0 μ0 G sts ok h => by cases sts <;> simp [chkS] at h⟩
    rw [chk1] at h
    cases st <;> first | (simp [isBrk] at h; done) | exact PS.via ps_break fun Z σ H z => t_brk z
  | cnt =>
    refine ⟨fun K W X H0 μ0 G st ok h => ?_, fun K W X H0 μ0 G sts ok h => by cases sts <;> simp [chkS] at h⟩
    rw [chk1] at h
    cases st <;> first | (simp [isCnt] at h; done) | exact PS.via ps_continue fun Z σ H z => t_cnt z
  | asg tg e =>
    refine ⟨fun K W X H0 μ0 G st ok h => ?_, fun K W X H0 μ0 G sts ok h => by cases sts <;> simp [chkS] at h⟩
    cases tg with
    | one i =>
      rw [chk1] at h
      split at h
      · rename_i t v l hx
        obtain ⟨p, rfl, rfl⟩ := asAsg_eq hx
        simp only [Bool.and_eq_true] at h
        obtain ⟨⟨h1, h2⟩, h3⟩ := h
        obtain ⟨x, px, rfl, g1, g2, g3⟩ := nmAt_eq ok.ok h1
        have pe := chkX_e ok.ok h2
        simp only [Bool.or_eq_true] at h3
        rcases h3 with (h3 | h3) | h3
        · exact PS.via (ps_set ok.ok.nd g1 g2 pe (swaps_no h3) g3) fun Z σ H z => t_asg z
        · -- stored on its own line
          rw [Bool.and_eq_true] at h3
          cases e <;> first | (simp [isLcC] at h3; done) | skip
          rotate_left
          · rename_i vs tg it c vs' tg' it' c' e'
            obtain ⟨_, l, p2, tst, tst', rfl, hv, hv', hvv, own2, hc, hc', q1, q2, q3, q4, q5, q6, q7, q8, q9, q10⟩ := lc2_parts (chk_ok S T it).2.2 (chk_ok S T c).1 (chk_ok S T it').2.2 (chk_ok S T c').1 (chk_ok S T e').1 ok.ok h2
            have h4 := h3.1
            unfold lcStore at h4
            simp only [Bool.and_eq_true, decide_eq_true_eq, Bool.not_eq_true'] at h4
            have hyl : X.env.scope.names.lookup x = some .local := by rw [ok.ok.sc]; exact h4.1.1
            have hsw : swapsWith (.ListComp l.elt [⟨l.t, l.it, l.ifs, 0⟩, ⟨l.t1, l.it1, l.ifs1, 0⟩] l.sc p2) (some (.Name x px)) p.line X.env = pure true := sw_true (by rw [ok.ok.sc]; exact ok.kd) hyl h4.1.2 h4.2
            have := ps_setLc2 (i := i) (spos := p) (g := gD X.K tg) (g1 := gD X.K tg') (own := ownL K vs) (vs1 := vs') ok.ok.calm ok.ok.nd g1 hyl hsw q1 q2 hvv q3 q4 q5 q6 q7 q8 q9 q10
            rw [own2] at this
            refine PS.via this fun Z σ H z => ?_
            have z := t_lc2 hv hv' hc hc' (t_asg z)
            rw [ok.ok.ag.K] at z
            exact z
          rename_i vs tg it c e'
          obtain ⟨elt, tx, iter, ifs, sc, q, tst, rfl, hv, hc, q1, q2, q3, q4, q5, q6⟩ := lc_parts ok.ok h2
          have h4 := h3.1
          unfold lcStore at h4
          simp only [Bool.and_eq_true, decide_eq_true_eq, Bool.not_eq_true'] at h4
          have hyl : X.env.scope.names.lookup x = some .local := by rw [ok.ok.sc]; exact h4.1.1
          have hsw : swapsWith (.ListComp elt [⟨tx, iter, ifs, 0⟩] sc q) (some (.Name x px)) p.line X.env = pure true := sw_true (by rw [ok.ok.sc]; exact ok.kd) hyl h4.1.2 h4.2
          have := ps_setLc (i := i) (spos := p) (g := gD X.K tg) (own := ownL K vs) ok.ok.calm ok.ok.nd g1 hyl hsw q1 q2 q3 q4 q5 q6
          rw [ownL_snd] at this
          refine PS.via this fun Z σ H z => ?_
          have z := t_lc hv hc (t_asg z)
          rw [ok.ok.ag.K] at z
          exact z
        · refine PS.via (ps_set ok.ok.nd g1 g2 pe ?_ g3) fun Z σ H z => t_asg z
          cases v <;> first | (simp [lcPlain] at h3; done) | skip
          rename_i elt gs sc q
          have hb : X.env.blockKind = .function := by unfold Env.blockKind; rw [ok.ok.sc, ok.kd]; rfl
          have hk : X.env.kindOf x = K.sc.names.lookup x := by unfold Env.kindOf; rw [ok.ok.sc]
          have h3' : ((K.sc.names.lookup x == some .local) && px.line == q.line && !(sc.names.any fun (n, k) => n == x && (k == .local || k == .cell))) = false := by simpa only [lcPlain, Bool.not_eq_true'] using h3
          unfold swapsWith
          simp only [hb, hk]
          show pure (_ && _ && _ && _) = _
          congr 1
      · cases h
    | many is =>
      rw [chk1] at h
      split at h
      · rename_i t v l hx
        obtain ⟨p, rfl, rfl⟩ := asAsg_eq hx
        simp only [Bool.and_eq_true] at h
        obtain ⟨⟨h1, h2⟩, h3⟩ := h
        have pg := ok_tg ok.ok h1
        have pe := chkX_e ok.ok h2
        simp only [chkTg] at h1
        split at h1
        · rename_i es ht
          obtain ⟨k, q, rfl⟩ := asTup_eq ht
          have hw : swappedStores [.Tuple es k q] v X.env = pure none := by
            cases hv : asTup v with
            | none => exact stores_no hv
            | some vs =>
              obtain ⟨k2, q2, rfl⟩ := asTup_eq hv
              unfold tupOk at h3
              rw [ht, hv] at h3
              dsimp only at h3
              split at h3
              · rename_i hs
                exact swp_eq (by rw [ok.ok.sc]; exact ok.kd) (by rw [ok.ok.sc]; exact hs)
              · cases h3
          refine PS.via (ps_asg pe pg sole_tup hw (by simp [assignEach])) fun Z σ H z => ?_
          have z := t_asgM z
          rw [ok.ok.ag.K] at z
          exact z
        · cases h1
      · cases h
  | par i j l =>
    refine ⟨fun K W X H0 μ0 G st ok h => ?_, fun K W X H0 μ0 G sts ok h => by cases sts <;> simp [chkS] at h⟩
    rw [chk1] at h
    split at h
    · rename_i t v ln hx
      obtain ⟨p, rfl, rfl⟩ := asAsg_eq hx
      split at h
      · rename_i a b c d ht hv
        obtain ⟨k, q, rfl⟩ := asTup_eq ht
        obtain ⟨k2, q2, rfl⟩ := asTup_eq hv
        split at h
        · rename_i x y ha hb
          obtain ⟨pa, rfl⟩ := asName_eq ha
          obtain ⟨pb, rfl⟩ := asName_eq hb
          simp only [Bool.and_eq_true, decide_eq_true_eq] at h
          obtain ⟨⟨⟨⟨⟨⟨h1, h2⟩, h3⟩, h4⟩, h5⟩, h6⟩, h7⟩ := h
          have args := ((chk_ok S T l).2.1 K W X _ ok.ok h6).1
          exact PS.via (ps_par ok.ok.calm ok.ok.nd (by rw [ok.ok.N]; exact h1) (by rw [ok.ok.N]; exact h2) h3 (by rw [ok.ok.sc]; exact h4) (by rw [ok.ok.sc]; exact h5) args (swp_eq (by rw [ok.ok.sc]; exact ok.kd) (by rw [ok.ok.sc]; exact h7)) sole_tup) fun Z σ H z => t_par z
        · cases h
      · cases h
    · cases h
  | aug i o e =>
    refine ⟨fun K W X H0 μ0 G st ok h => ?_, fun K W X H0 μ0 G sts ok h => by cases sts <;> simp [chkS] at h⟩
    rw [chk1] at h
    split at h
    · rename_i x op v hx
      obtain ⟨p, q, rfl⟩ := asAug_eq hx
      simp only [Bool.and_eq_true, decide_eq_true_eq] at h
      obtain ⟨⟨⟨h1, h2⟩, h3⟩, h4⟩ := h
      obtain ⟨l1, l2⟩ := ok.ok.loc h3
      have pe := chkX_e ok.ok h4
      have hN : X.N[i]? = some x := by rw [ok.ok.N]; exact h2
      cases o <;> simp only [aop, Option.some.injEq] at h1 <;> first | (cases h1; done) | skip
      · subst h1
        exact PS.via (ps_aug ok.ok.nd hN l1 pe ip_add l2) fun Z σ H z => t_aug (o := .add) (fun x y => rfl) (.inl rfl) z
      · subst h1
        exact PS.via (ps_aug ok.ok.nd hN l1 pe ip_sub l2) fun Z σ H z => t_aug (o := .sub) (fun x y => rfl) (.inr rfl) z
    · cases h
  | app i e =>
    refine ⟨fun K W X H0 μ0 G st ok h => ?_, fun K W X H0 μ0 G sts ok h => by cases sts <;> simp [chkS] at h⟩
    rw [chk1] at h
    split at h
    · rename_i c hx
      obtain ⟨p, rfl⟩ := asExpr_eq hx
      split at h
      · rename_i o n v hm
        simp only [Bool.and_eq_true, decide_eq_true_eq] at h
        obtain ⟨⟨rfl, h1⟩, h2⟩ := h
        obtain ⟨po, pl⟩ := own_name ok.ok h1
        obtain ⟨pe, nc⟩ := meth_name hm F.plainAttrs_list F.slot_list_append (by first | exact F.type_list_append | decide +kernel) app_mt po (chkX_e ok.ok h2) pl
        exact PS.via (ps_expr pe (swaps_no nc)) fun Z σ H z => t_app z
      · cases h
    · cases h
  | popk i e =>
    refine ⟨fun K W X H0 μ0 G st ok h => ?_, fun K W X H0 μ0 G sts ok h => by cases sts <;> simp [chkS] at h⟩
    rw [chk1] at h
    split at h
    · rename_i c hx
      obtain ⟨p, rfl⟩ := asExpr_eq hx
      split at h
      · rename_i o n v hm
        simp only [Bool.and_eq_true, decide_eq_true_eq] at h
        obtain ⟨⟨rfl, h1⟩, h2⟩ := h
        obtain ⟨po, pl⟩ := own_name ok.ok h1
        obtain ⟨pe, nc⟩ := meth_name hm F.plainAttrs_dict F.slot_dict_pop (by first | exact F.type_dict_pop | decide +kernel) (mt_popD ok.ok.ag ok.ok.hu) po (chkX_e ok.ok h2) pl
        exact PS.via (ps_expr pe (swaps_no nc)) fun Z σ H z => t_popk z
      · cases h
    · cases h
  | put i k e =>
    refine ⟨fun K W X H0 μ0 G st ok h => ?_, fun K W X H0 μ0 G sts ok h => by cases sts <;> simp [chkS] at h⟩
    rw [chk1] at h
    split at h
    · rename_i t v l hx
      obtain ⟨p, rfl, rfl⟩ := asAsg_eq hx
      split at h
      · rename_i o y ht
        obtain ⟨⟨q, rfl⟩, _⟩ := asSub_eq ht
        simp only [Bool.and_eq_true] at h
        obtain ⟨⟨h1, h2⟩, h3⟩ := h
        obtain ⟨po, pl⟩ := own_name ok.ok h1
        exact PS.via (ps_asg (chkX_e ok.ok h3) (pg_sub po (chkX_e ok.ok h2) (set_putD ok.ok.ag ok.ok.hu) (sub_asg (asSub_ns ht))) sole_sub stores_sub (by simp [assignEach])) fun Z σ H z => t_put z
      · cases h
    · cases h
  | cput o k e =>
    refine ⟨fun K W X H0 μ0 G st ok h => ?_, fun K W X H0 μ0 G sts ok h => by cases sts <;> simp [chkS] at h⟩
    rw [chk1] at h
    split at h
    · rename_i t v l hx
      obtain ⟨p, rfl, rfl⟩ := asAsg_eq hx
      split at h
      · rename_i o' y ht
        obtain ⟨⟨q, rfl⟩, _⟩ := asSub_eq ht
        simp only [Bool.and_eq_true] at h
        obtain ⟨⟨h1, h2⟩, h3⟩ := h
        exact PS.via (ps_asg (chkX_e ok.ok h3) (pg_sub (chkX_e ok.ok h1) (chkX_e ok.ok h2) (set_putD ok.ok.ag ok.ok.hu) (sub_asg (asSub_ns ht))) sole_sub stores_sub (by simp [assignEach])) fun Z σ H z => t_cput z
      · cases h
    · cases h
  | ex e =>
    refine ⟨fun K W X H0 μ0 G st ok h => ?_, fun K W X H0 μ0 G sts ok h => by cases sts <;> simp [chkS] at h⟩
    rw [chk1] at h
    split at h
    · rename_i v hx
      obtain ⟨p, rfl⟩ := asExpr_eq hx
      simp only [Bool.and_eq_true] at h
      exact PS.via (ps_expr (chkX_e ok.ok h.2) (swaps_no h.1)) fun Z σ H z => t_ex z
    · cases h
  | ret e =>
    refine ⟨fun K W X H0 μ0 G st ok h => ?_, fun K W X H0 μ0 G sts ok h => by cases sts <;> simp [chkS] at h⟩
    rw [chk1] at h
    split at h
    · rename_i v hx
      obtain ⟨p, rfl⟩ := asRet_eq hx
      exact PS.via (ps_ret (chkX_e ok.ok h)) fun Z σ H z => t_ret z
    · cases h
  | retn =>
    refine ⟨fun K W X H0 μ0 G st ok h => ?_, fun K W X H0 μ0 G sts ok h => by cases sts <;> simp [chkS] at h⟩
    rw [chk1] at h
    split at h
    · rename_i hx
      obtain ⟨p, rfl⟩ := asRet_eq hx
      exact PS.via ps_retN fun Z σ H z => t_retn z
    · cases h
  | ite c a b iha ihb =>
    refine ⟨fun K W X H0 μ0 G st ok h => ?_, fun K W X H0 μ0 G sts ok h => by cases sts <;> simp [chkS] at h⟩
    rw [chk1] at h
    split at h
    · rename_i x y z hx
      obtain ⟨p, rfl⟩ := asIfS_eq hx
      simp only [Bool.and_eq_true] at h
      exact PS.via (ps_if (chkX_t ok.ok h.1.1) (iha.2 K W X H0 μ0 G y ok h.1.2) (ihb.2 K W X H0 μ0 G z ok h.2)) fun Z σ H z => t_ifs z
    · cases h
  | «for» tg it b ihb =>
    refine ⟨fun K W X H0 μ0 G st ok h => ?_, fun K W X H0 μ0 G sts ok h => by cases sts <;> simp [chkS] at h⟩
    rw [chk1] at h
    split at h
    · rename_i t i y hx
      obtain ⟨p, rfl⟩ := asFor_eq hx
      simp only [Bool.and_eq_true] at h
      obtain ⟨⟨⟨h1, h2⟩, h3⟩, h4⟩ := h
      refine PS.via (ps_for ok.po ok.ok.calm ((chk_ok S T it).2.2 K W X t i ok.ok h2) (ok_tg ok.ok h1) (ihb.2 K W X H0 μ0 G y ok h4) (notSet_eq h3 _)) fun Z σ H z => ?_
      have z := t_for z
      rw [ok.ok.ag.K] at z
      exact z
    · cases h
  | wh c b ihb =>
    refine ⟨fun K W X H0 μ0 G st ok h => ?_, fun K W X H0 μ0 G sts ok h => by cases sts <;> simp [chkS] at h⟩
    rw [chk1] at h
    split at h
    · rename_i x y hx
      obtain ⟨p, rfl⟩ := asWh_eq hx
      simp only [Bool.and_eq_true] at h
      exact PS.via (ps_while ok.po (chkX_t ok.ok h.1) (ihb.2 K W X H0 μ0 G y ok h.2)) fun Z σ H z => t_wh z
    · cases h
  | tryc i e c n j =>
    refine ⟨fun K W X H0 μ0 G st ok h => ?_, fun K W X H0 μ0 G sts ok h => by cases sts <;> simp [chkS] at h⟩
    rw [chk1] at h
    split at h
    · rename_i y hx
      obtain ⟨t, v, cn, en, t2, v2⟩ := y
      obtain ⟨p, np, p2, pos', pos, rfl⟩ := asTry_eq hx
      simp only [Bool.and_eq_true, decide_eq_true_eq] at h
      obtain ⟨⟨⟨⟨⟨⟨⟨⟨⟨⟨h1, h2⟩, h3⟩, h4⟩, h5⟩, h6⟩, h7⟩, h8⟩, h9⟩, h10⟩, h11⟩ := h
      obtain ⟨x, px, rfl, g1, g2, g3⟩ := nmAt_eq ok.ok h1
      obtain ⟨x2, px2, rfl, k1, k2, k3⟩ := nmAt_eq ok.ok h9
      obtain ⟨pv, rfl⟩ := asName_eq h10
      obtain ⟨cv, u, c1, c2, c3, c4⟩ := ok.ok.cls cn c h6
      have hnl : X.env.scope.names.lookup en = some .local := by rw [ok.ok.sc]; exact h8
      have hen : X.N[n]? = some en := by rw [ok.ok.N]; exact h7
      refine PS.via (ps_try_keep (tb := fun W' => tAsg (tE S W' T e) (gName i)) (ts := fun _ _ _ => tAsg (tVar n) (gName j)) (c := cv) ok.st ok.fr ok.ex0 ok.ok.nd hen hnl ⟨ok.ok.gl h4, nameOk_1 h5, c3⟩ ok.ok.tk (fun W' pn xe tk po => ?_) fun a oe cls d pn hz hd => ?_) fun Z σ H z => ?_
      · exact pss_one (ps_set (X := X.tr pn xe) ok.ok.nd g1 g2 (chkX_e (ok.ok.tr tk) h2) (swaps_no h3) g3)
      · exact pss_one (ps_set (X := X.suite a ((a, oe) :: pn)) ok.ok.nd k1 k2 (pe_var hen (.inl hnl) (nameOk_1 h11) (nameOk_2 h11)) (swaps_no rfl) k3)
      · have z := t_tryc (fun k b hb => by rw [ok.ok.ag.K]; exact (c4 k b hb).1) z
        rw [ok.ok.ag.K] at z
        exact z
    · cases h
  | rai c l =>
    refine ⟨fun K W X H0 μ0 G st ok h => ?_, fun K W X H0 μ0 G sts ok h => by cases sts <;> simp [chkS] at h⟩
    cases l with
    | nil =>
      rw [chk1] at h
      split at h
      · rename_i x hx
        obtain ⟨p, m, j, p2, q, r, rfl⟩ := asRai_eq hx
        simp only [Bool.and_eq_true, decide_eq_true_eq] at h
        obtain ⟨⟨h1, h2⟩, h3⟩ := h
        obtain ⟨C, e1, e2⟩ := ok.exs x c h3 h1 h2
        refine PS.via (ps_raise ok.ok.calm ok.ok.tk (e2 m j p p2 q)) fun Z σ H z => ?_
        have := t_rai z
        rw [e1] at this
        exact this
      · cases h
    | _ => simp [chk1] at h
  | dead =>
    have no : ∀ {W H0 μ0 G Z σ H}, ¬ tS S W T H0 μ0 G .dead Z σ H := fun ⟨_, _, _, _, _, p⟩ => by simp [evS, PostS] at p
    exact ⟨fun K W X H0 μ0 G st ok h => ⟨fun pins s σ H Z I q => (no q).elim⟩, fun K W X H0 μ0 G sts ok h => ⟨fun pins s σ H Z I q => (no q).elim⟩⟩
  | _ => exact ⟨fun K W X H0 μ0 G st ok h => by simp [chk1] at h, fun K W X H0 μ0 G sts ok h => by cases sts <;> simp [chkS] at h⟩
end
end R
end
section
set_option Elab.async false
set_option linter.all false
set_option maxRecDepth 100000
/-! RK6: a def of the text keeps the evaluator's promise. -/
namespace R
open PySem PySem.Spec PyProof.Rows L2
section
variable {S : St0} {H H' : Hp} {μ : List Addr} {w w' : Wd} {G : Addr → Prop} {Q : VK} {E : XK}
theorem rep_clt {S : St0} {F : Hp} {μ μ' : List Addr} {m : Nat} (hm : ∀ n a, n < m → μ'[n]? = some a → μ[n]? = some a) : ∀ (n : Nat) (d : D) (v : V), clt m n d = true → Rep S F μ' d v → Rep S F μ d v := fun n => by
  have flat : ∀ (n : Nat) (d : D) (v : V), (match d with | .tup _ | .lst _ | .dic _ _ => False | _ => True) → clt m n d = true → Rep S F μ' d v → Rep S F μ d v := fun n d v hd e h => by
    cases d with
    | cell k =>
      simp only [Rep] at h ⊢
      obtain ⟨a, h1, h2⟩ := h
      cases n <;> exact ⟨a, hm k a (by simpa [clt] using e) h1, h2⟩
    | tup _ => exact hd.elim
    | lst _ => exact hd.elim
    | dic _ _ => exact hd.elim
    | exc _ _ => cases n <;> simp [clt] at e
    | obj _ _ _ => simp only [Rep] at h
    | _ => simpa only [Rep] using h
  induction n with
  | zero =>
    intro d v e h
    cases d with
    | tup _ => simp [clt] at e
    | lst _ => simp [clt] at e
    | dic _ _ => simp [clt] at e
    | _ => exact flat 0 _ v trivial e h
  | succ n ih =>
    have all : ∀ (ds : List D) (vs : List V), ds.all (clt m n) = true → Reps S F μ' ds vs → Reps S F μ ds vs := by
      intro ds
      induction ds with
      | nil => intro vs _ h; rw [h.inv0]; exact Reps.nil
      | cons d ds ih2 =>
        intro vs e h
        obtain ⟨v, r, rfl, h1, h2⟩ := h.inv
        simp only [List.all_cons, Bool.and_eq_true] at e
        exact Reps.cons (ih d v e.1 h1) (ih2 r e.2 h2)
    intro d v e h
    cases d with
    | tup ds =>
      simp only [Rep] at h ⊢
      obtain ⟨a, vs, rfl, hs, hr⟩ := h
      exact ⟨a, vs, rfl, hs, all ds vs (by simpa [clt] using e) hr⟩
    | lst ds =>
      simp only [Rep] at h ⊢
      obtain ⟨a, vs, rfl, hs, hr⟩ := h
      exact ⟨a, vs, rfl, hs, all ds vs (by simpa [clt] using e) hr⟩
    | dic ks ws =>
      simp only [Rep] at h ⊢
      simp only [clt, Bool.and_eq_true] at e
      obtain ⟨a, o, kv, wv, e0, hs, h1, h2, h3, h4, h5⟩ := h
      exact ⟨a, o, kv, wv, e0, hs, h1, h2, h3, all ks kv e.1 h4, all ws wv e.2 h5⟩
    | _ => exact flat (n + 1) _ v trivial e h
theorem cont_clt {S : St0} {F : Hp} {μ μ' : List Addr} {m n : Nat} {a : Addr} (hm : ∀ n a, n < m → μ'[n]? = some a → μ[n]? = some a) {d : D} (e : clt m n d = true) (h : Cont S F μ' H a d) : Cont S F μ H a d := by
  have all : ∀ {k : Nat} (ds : List D) (vs : List V), ds.all (clt m k) = true → Reps S F μ' ds vs → Reps S F μ ds vs := by
    intro k ds
    induction ds with
    | nil => intro vs _ h; rw [h.inv0]; exact Reps.nil
    | cons d ds ih2 =>
      intro vs e h
      obtain ⟨v, r, rfl, h1, h2⟩ := h.inv
      simp only [List.all_cons, Bool.and_eq_true] at e
      exact Reps.cons (rep_clt hm k d v e.1 h1) (ih2 r e.2 h2)
  cases d with
  | lst ds =>
    obtain ⟨vs, h1, h2⟩ := h
    cases n with
    | zero => simp [clt] at e
    | succ n => exact ⟨vs, h1, all ds vs (by simpa [clt] using e) h2⟩
  | dic ks ws =>
    obtain ⟨o, kv, wv, h1, h2, h3, h4, h5, h6⟩ := h
    cases n with
    | zero => simp [clt] at e
    | succ n =>
      simp only [clt, Bool.and_eq_true] at e
      exact ⟨o, kv, wv, h1, h2, h3, h4, all ks kv e.1 h5, all ws wv e.2 h6⟩
  | _ => exact h.elim
/-- what was shared within a def alone is forgotten -/
theorem trim_ok {B : Addr → Prop} {ds : List D} {μ' : List Addr} (len : w.length = μ.length) (e : Ext H μ H' μ') (wr : WRel S H' μ' w' B) :
    ∃ μ2, Ext H μ H' μ2 ∧ WRel S H' μ2 (trim w w' ds) B ∧ Same (hide H' fun b => b ∈ μ' ∨ B b) (hide H' fun b => b ∈ μ2 ∨ B b) ∧
      (∀ d ∈ ds, ∀ F v, Rep S F μ' d v → Rep S F μ2 d v) ∧ (∀ d ∈ ds, ∀ F a, Cont S F μ' H' a d → Cont S F μ2 H' a d) := by
  unfold trim
  split
  · rename_i h
    simp only [Bool.and_eq_true, decide_eq_true_eq] at h
    obtain ⟨⟨h1, h2⟩, h3⟩ := h
    obtain ⟨τ, rfl, ht⟩ := e.new
    have hm : ∀ (n : Nat) (a : Addr), n < w.length → (μ ++ τ)[n]? = some a → μ[n]? = some a := fun n a hn g => by
      rw [List.getElem?_append_left (by omega)] at g; exact g
    have fz : Same (hide H' fun b => b ∈ μ ++ τ ∨ B b) (hide H' fun b => b ∈ μ ∨ B b) := hide_mono (fun _ _ e _ => e) fun b o _ nb z => nb (z.imp_left fun q => List.mem_append_left _ q)
    refine ⟨μ, ⟨e.keep, e.cel, [], by simp, fun _ z => nomatch z⟩, ⟨by rw [List.length_take]; omega, (List.nodup_append.mp wr.nd).1, fun n a d g1 g2 => ?_, fun a ha => wr.dis a (List.mem_append_left _ ha), wr.gd⟩, fz, fun d hd F v g => rep_clt hm 9 d v (List.all_eq_true.mp h2 d hd) g, fun d hd F a g => cont_clt hm (List.all_eq_true.mp h2 d hd) g⟩
    have hn : n < μ.length := (List.getElem?_eq_some_iff.mp g1).1
    have g3 : w'[n]? = some d := by
      rw [List.getElem?_take_of_lt (by omega)] at g2; exact g2
    have c := wr.cont n a d (by rw [List.getElem?_append_left hn]; exact g1) g3
    exact (cont_clt hm (List.all_eq_true.mp h3 d (List.mem_of_getElem? g2)) c).mono fz (Pre.refl _) fun _ q => q
  · exact ⟨μ', e, wr, fun _ _ z => z, fun _ _ _ _ z => z, fun _ _ _ _ z => z⟩
/-- a body's end as a call's -/
theorem post_back {Fz : FZ} {o : Option Out} (len : w.length = μ.length) (h : PostF S H μ G Q E (back w o)) : PostS S (fun cls d _ H => E cls d H) H μ G Fz { nx := fun _ H' => Q .non H', rt := Q } o := by
  cases o with
  | none => exact h
  | some o =>
    cases o with
    | next env' w' =>
      intro σ' H' μ' s
      obtain ⟨μ2, e2, wr2, _, _, _⟩ := trim_ok (ds := []) len s.ext0 (s.rel.wr.mono fun b z => .inl z)
      exact h .non H' μ2 e2 wr2 (by simp only [Rep])
    | brk _ _ => exact False.elim h
    | cnt _ _ => exact False.elim h
    | exc c p w' =>
      intro dx σ' H' μ' e wr x
      obtain ⟨μ2, e2, wr2, fz, r2, c2⟩ := trim_ok (ds := p) len e wr
      clear c2
      refine h dx H' μ2 e2 wr2 ?_
      revert x
      unfold ExcR
      split
      · exact id
      · rintro ⟨a, v, h1, h2, h3⟩
        exact ⟨a, v, h1, h2, Rep.mono fz (Pre.refl _) _ _ (r2 _ (by simp) _ _ h3)⟩
      · exact id
    | ret k d w' =>
      cases k with
      | val =>
        intro v H' μ' e wr rp
        obtain ⟨μ2, e2, wr2, fz, r2, _⟩ := trim_ok (ds := [d]) len e wr
        exact h v H' μ2 e2 wr2 (Rep.mono fz (Pre.refl _) _ _ (r2 d (by simp) _ _ rp))
      | own =>
        intro a H' μ' e hn wr c
        obtain ⟨μ2, e2, wr2, fz, _, r2⟩ := trim_ok (ds := [d]) len e wr
        exact h a H' μ2 e2 hn wr2 ((r2 d (by simp) _ _ c).mono fz (Pre.refl _) fun _ q => q)
      | slot _ => exact False.elim h
      | cel => exact False.elim h
end

/-- a def's facts: its place, its text, what binds its parameters -/
structure FnC (K : PySem.W.Frag) (mg : Str → Option Value) (S : St0) (nm gl exs cls : List (Str × Nat)) (x : Str) (f : Nat) (d : Df) (adr : Addr) (fd : FuncData) (ps : List Str) : Prop where
  ex : ∃ (st : Stmt) (N : List Str), Fun K x x st adr fd ∧ FnScope N ps (defScope st) ∧ d.slots = N.length ∧ chkS d.body ⟨N, defScope st, fun _ => true, nm, gl, exs, cls⟩ (defBody st) = true
  at1 : mg x = some (.ref adr)
  fn : S.fnv f = .ref adr
  pars : d.pars = ps.length
  bind : ∀ us : List Value, us.length = ps.length → bindArgs fd ⟨us, []⟩ = pure (ps.zip us)
/-- the program's facts -/
structure PrF (P : Program) (w : World) (K : PySem.W.Frag) (mg : Str → Option Value) (S : St0) (nm gl exs cls : List (Str × Nat)) (pt : Nat → Option Df) (gv : Nat → Option D) (sub : Nat → Nat → Option Bool) : Prop where
  SP : S.P = P
  Sw : S.w = w
  SK : S.K = K
  hf : ∀ f, S.fnv f ≠ .non
  fn : ∀ x f, nm.lookup x = some f → ∃ d adr fd ps, pt f = some d ∧ FnC K mg S nm gl exs cls x f d adr fd ps
  gl : ∀ x g, gl.lookup x = some g → ∃ u v d, mg x = some u ∧ RelV v u ∧ gv g = some d ∧ ∀ F μ, Rep S F μ d v
  bl : ∀ x ∈ blts, mg x = none
  ex : ∀ x c, exs.lookup x = some c → ∃ C : Addr, S.exv c = .ref C ∧ mg x = some (.ref C) ∧ PySem.W.keepIn K (.ref C) = true ∧ ∃ B newId initId bmB, ExcBaseFacts B newId initId bmB ∧ PySem.W.excIn K C bmB newId = true ∧
    PySem.W.subIn K (.ref C) (.type "BaseException") = some true ∧ PySem.W.typeIn K (.ref C) = some (.type "type")
  cls : ∀ x c, cls.lookup x = some c → ∃ (cv : Value) (v : V), RelV v cv ∧ (∀ u, RelV v u → u = cv) ∧ (mg x = some cv ∨ (mg x = none ∧ bootBuiltins x = some cv ∧ x ≠ "__name__")) ∧
    ∀ k b, sub k c = some b → PySem.W.exmOne K (S.exv k) cv = some b ∧ ∃ D : Addr, S.exv k = .ref D ∧ ExcC K D ∧ PySem.W.kitOne K (.ref D) cv = some b
section
variable {P : Program} {w : World} {K : PySem.W.Frag} {mg : Str → Option Value} {base : Heap} {S : St0} {nm gl exs cls : List (Str × Nat)} {pt : Nat → Option Df} {gv : Nat → Option D} {sub : Nat → Nat → Option Bool} {fuel : Nat}
theorem startE_get {n : Nat} {ds : List D} {i : Nat} {sl : Sl} (h : (startE n ds)[i]? = some sl) : (∃ d, ds[i]? = some d ∧ sl = .val d) ∨ sl = .no := by
  unfold startE at h
  by_cases hi : i < ds.length
  · rw [List.getElem?_append_left (by simpa using hi), List.getElem?_map, Option.map_eq_some_iff] at h
    obtain ⟨d, h1, h2⟩ := h
    exact .inl ⟨d, h1, h2.symm⟩
  · rw [List.getElem?_append_right (by simpa using hi), List.getElem?_replicate] at h
    split at h
    · cases h; exact .inr rfl
    · cases h
theorem sr_start {H : Hp} {μ : List Addr} {G : Addr → Prop} {wd : Wd} {N : List Str} {ds : List D} {vs : List V} (wr : WRel S H μ wd G) (rp : Reps S (hide H fun b => b ∈ μ ∨ G b) μ ds vs) (hl : ds.length ≤ N.length) : SR S H μ ⟨hide H fun b => b ∈ μ, μ⟩ G (L2.start N vs) H (startE N.length ds) wd μ := by
  have no : ∀ a, ¬ ownAt (startE N.length ds) (L2.start N vs) a := fun a ⟨i, d, h1, _⟩ => by
    rcases startE_get h1 with ⟨_, _, z⟩ | z <;> cases z
  have eb : hide H (BB μ G (startE N.length ds) (L2.start N vs)) = hide H fun b => b ∈ μ ∨ G b := hide_bb fun b => ⟨fun z => z.imp_right fun q => q.elim id fun t => absurd t (no b), fun z => z.imp_right .inl⟩
  have lv := rp.length
  refine ⟨⟨wr.mono fun b z => z.elim id fun t => absurd t (no b), ?_, fun i d h => ?_, fun i d h => ?_, fun i j d e a h => ?_⟩, fun b o h => ?_, fun b o h hb => hide_of h hb, ⟨[], by simp, fun _ z => nomatch z⟩, fun a z => absurd z (no a), .refl _⟩
  · unfold startE L2.start
    simp [lv]
  · rw [eb]
    rcases startE_get h with ⟨d', h1, z⟩ | z
    · cases z
      obtain ⟨v, h2, h3⟩ := rp.get h1
      refine ⟨v, ?_, h3⟩
      unfold L2.start
      have hi := (List.getElem?_eq_some_iff.mp h2).1
      rw [List.getElem?_append_left (by simpa using hi), List.getElem?_map, h2]
      rfl
    · cases z
  · rcases startE_get h with ⟨_, _, z⟩ | z <;> cases z
  · rcases startE_get h with ⟨_, _, z⟩ | z <;> cases z
  · obtain ⟨q1, q2⟩ := of_hide h
    exact ⟨q1, q2, no b⟩
/-- every def of the table, by fuel -/
theorem all_ok (F : PrF P w K mg S nm gl exs cls pt gv sub) : ∀ (n : Nat) (x : Str) (f : Nat) (d : Df) (adr : Addr) (fd : FuncData) (ps : List Str), pt f = some d → FnC K mg S nm gl exs cls x f d adr fd ps → FnOk P w K mg base (L2.CX P w) (3 * n) adr fd ps (spF S (evC pt gv sub fuel n f)) := fun n => by
  induction n with
  | zero =>
    intro x f d adr fd ps hd C
    have no : ∀ vs H Q E, ¬ spF S (evC pt gv sub fuel 0 f) vs H Q E := fun vs H Q E ⟨ds, w, μ, G, _, _, z⟩ => z
    exact ⟨fun vs H Q E z => absurd z (no _ _ _ _), fun A outer s H args us vs Q E _ _ _ _ z => absurd z (no _ _ _ _)⟩
  | succ n ih =>
    intro x f d adr fd ps hd C
    obtain ⟨⟨st, N, fn, h3, h8, h10⟩, h4, h9, h7, hb⟩ := C
    have run : ∀ ds w, evC pt gv sub fuel (n + 1) f ds w = runD ⟨evC pt gv sub fuel n, gv, sub, fuel⟩ d ds w := fun ds w => by rw [evC, hd]
    have lenp : ∀ {vs H Q E}, spF S (evC pt gv sub fuel (n + 1) f) vs H Q E → vs.length = ps.length := fun ⟨ds, w, μ, G, _, rp, z⟩ => by
      rw [run] at z
      unfold runD at z
      split at z
      · rename_i e
        rw [rp.length, e, h7]
      · exact z.elim
    refine fn.okX (k := 3 * n + 2) h3 (fun vs H Q E z => lenp z) fun cdv A outer s H vs Q E hr hs => ?_
    have hl := lenp hs
    obtain ⟨ds, wd, μ, G, wr, rp, z⟩ := hs
    rw [run] at z
    unfold runD at z
    split at z
    · rename_i e
      have hpl : ps.length ≤ N.length := by have := congrArg List.length h3.pre; rw [List.length_take] at this; omega
      refine ⟨tS S (fun cls d _ H => E cls d H) ⟨evC pt gv sub fuel n, gv, sub, fuel⟩ H μ G d.body, ?_, ⟨⟨hide H fun b => b ∈ μ, μ⟩, startE d.slots ds, wd, μ, ?_, post_back wr.len z⟩⟩
      · refine (chkS_ok S _ d.body).2 ⟨N, defScope st, fun _ => true, nm, gl, exs, cls⟩ _ _ H μ G (defBody st) ?_ h10
        have tk := takes_of (X := cxOf (L2.CX P w) P w K mg base N x (defScope st) adr cdv A outer s H E) rfl rfl rfl (E := E) (E₁ := fun e' s'' => L2.CX P w outer H s E e' s'') rfl
        have po := passes_of (X := cxOf (L2.CX P w) P w K mg base N x (defScope st) adr cdv A outer s H E) (K := fun e s'' => L2.CX P w outer H s E e s'') (E₁ := fun e' s'' => L2.CX P w outer H s E e' s'') rfl
        refine ⟨⟨⟨F.SP, F.Sw, F.SK⟩, rfl, h3.nd, rfl, rfl, rfl, hr.hd, ?_, F.hf, tk, fun y g hy => ?_, F.gl, F.bl, F.cls⟩, po, h3.kind, rfl, rfl, rfl, fun y c hy gy ny => ?_⟩
        · have := hr.un
          show (A.deeper (envOfC x (defScope st) s.heap.objs.size adr cdv)).units + 65 < cLine
          omega
        · obtain ⟨d', adr', fd', ps', hd', C'⟩ := F.fn y g hy
          have keep : PySem.W.keepIn K (.ref adr') = true := by
            obtain ⟨st', N', fn', _⟩ := C'.ex
            exact fn'.kp
          exact ⟨3 * n, adr', fd', ps', ih y g d' adr' fd' ps' hd' C', hr.mono (by omega), (Room.in1 (k := 3 * n + 1) hr).in1, C'.at1, keep, .all C'.bind, C'.fn⟩
        · obtain ⟨C, e1, e2, e3, B, newId, initId, bmB, e4, e5, e6, e7⟩ := F.ex y c hy
          refine ⟨C, e1, fun m j p p2 pos => pmk_own e4 e5 e2 e3 (raises_own e6 e7) ?_ (nameOk_1 ny)⟩
          have gy : (defScope st).names.lookup y = some .globalImplicit := of_decide_eq_true gy
          exact gy
      · rw [h8]
        exact sr_start wr rp (by rw [e, h7]; exact hpl)
    · exact z.elim
end
/-- the script, and nothing else -/
theorem reps_script {S : St0} {F : Hp} {μ : List Addr} : ∀ ns : List Int, Reps S F μ (ns.map D.int) (ns.map V.int)
  | [] => Reps.nil
  | n :: ns => Reps.cons (by simp only [Rep]) (reps_script ns)
/-- THE END: a law that the evaluator keeps -/
theorem law_end {l : PySem.W.OpenLaw} {n m fuel lf : Nat} {q : Program} {loose : List Str} {XP : (Str → Option Value) → Heap → Prop} {YP : World → Heap → Prop} {d : DefRec} {K : Params → PySem.W.Frag} {S : World → St0} {nm gl exs cls : List (Str × Nat)} {pt : Nat → Option Df} {gv : Nat → Option D} {sub : Nat → Nat → Option Bool} {x : Str}
    (hn : l.most = some n) (hn2 : n ≤ sizeLine) (hdf : d.params.defaults = []) (hr : Room (3 * m) callerA) (hY : ∀ (w : World) (h : Heap), YP w h → (K w.params).In h) (hSK : ∀ w, (S w).K = K w.params)
    (F : ∀ (w : World) (mg : Str → Option Value) (fa : Addr) (h : Heap), (K w.params).In h → h.Ns mainGlobals mg → mg d.name = some (.ref fa) →
      PrF l.prog w (K w.params) mg (S w) nm gl exs cls pt gv sub ∧ ∃ dl fd, pt lf = some dl ∧ FnC (K w.params) mg (S w) nm gl exs cls d.name lf dl fa fd [x])
    (main : ∀ ns : List Int, ns.length ≤ n → ∃ w', evC pt gv sub fuel m lf [.lst (ns.map D.int)] [] = some (.ok (.val, .bl true) w')) :
    PySem.W.WalkO q loose XP YP l.row.toRowW d [] (fun f vs => PySem.call f vs) := by
  refine walk_of (K := K) (CX := fun w => L2.CX l.prog w) (sp := fun w => spF (S w) (evC pt gv sub fuel m lf)) (k := 3 * m) (x := x) hn hn2 hdf hr hY (fun w mg fa h KX G e => ?_) (fun w H a ns hl hO hS => ?_) fun w H s e s' z => ?_
  · obtain ⟨P, dl, fd, h1, C⟩ := F w mg fa h KX G e
    exact ⟨fd, fun s u => .of_eq (C.bind [u] rfl), fun base _ _ => all_ok P m _ lf dl fa fd [x] h1 C⟩
  · obtain ⟨w', hm⟩ := main ns hl
    refine ⟨[.lst (ns.map D.int)], [], [], fun _ => False, wrel_nil fun _ z => z.elim, Reps.cons ?_ Reps.nil, ?_⟩
    · simp only [Rep]
      refine ⟨a, ns.map V.int, rfl, ?_, reps_script ns⟩
      rw [hSK]
      exact Same.sqL (fun b o e => hide_of e fun z => z.elim (fun t => nomatch t) id) hS
    · rw [hm]
      intro v H' μ' _ _ rp
      simpa only [Rep] using rp
  · obtain ⟨_, _, _, _, _, _, _, _, _, _, _, z⟩ := z
    first | exact z.elim | exact z.1.elim | exact z.2.elim | (obtain ⟨_, z⟩ := z; exact z.elim)
end R
end
section
set_option Elab.async false
set_option linter.all false
set_option maxRecDepth 100000
/-! RT2: the facts of a table by checks. -/
namespace R
open PySem PySem.Spec PyProof.Rows L2
structure Row where
  x : Str
  f : Nat
  d : Df
  st : Stmt
  N : List Str
  ps : List Str
def valOf (K : PySem.W.Frag) (x : Str) : Value := match PySem.W.nsIn K mainGlobals x with | some (some v) => v | _ => .none
def adrV : Value → Addr
  | .ref a => a
  | _ => 0
def fnvOf (K : PySem.W.Frag) (rows : List Row) (f : Nat) : V := match rows.find? (fun r => r.f == f) with | some r => V.ref (adrV (valOf K r.x)) | none => V.int 0
def clV (K : PySem.W.Frag) (x : Str) : Value := if x = "ValueError" then .type "ValueError" else valOf K x
def exvOf (K : PySem.W.Frag) (cls : List (Str × Nat)) (k : Nat) : Value := match cls.find? (fun r => r.2 == k) with | some r => valOf K r.1 | none => .none
def nmOf (rows : List Row) : List (Str × Nat) := rows.map fun r => (r.x, r.f)
/-- a def stands at a -/
def DefFact (K : PySem.W.Frag) (x : Str) (st : Stmt) (a : Addr) : Prop := ∃ (oc : Value) (od : Option Addr) (kV doc pm : Value) (an : Option Addr) (cdv ct : Value) (osl : Array (Option Value)),
  PySem.W.nsIn K mainGlobals x = some (some (.ref a)) ∧ K.lookup a = some ⟨oc, od, .func (PySem.W.fnOf x x (defArgs st) (defBody st) (defScope st) .none kV doc pm an cdv ct), osl⟩ ∧ PySem.W.codeIn K cdv x = true ∧ PySem.W.keepIn K (.ref a) = true
def DefsOk (K : PySem.W.Frag) : List Row → Prop
  | [] => True
  | r :: rs => (∃ a, DefFact K r.x r.st a) ∧ DefsOk K rs
theorem defs_cons {K : PySem.W.Frag} {x : Str} {f : Nat} {d : Df} {st : Stmt} {N ps : List Str} {rs : List Row} {a : Addr} {oc : Value} {od : Option Addr} {kV doc pm : Value} {an : Option Addr} {cdv ct : Value} {osl : Array (Option Value)}
    (h1 : PySem.W.nsIn K mainGlobals x = some (some (.ref a))) (h2 : K.lookup a = some ⟨oc, od, .func (PySem.W.fnOf x x (defArgs st) (defBody st) (defScope st) .none kV doc pm an cdv ct), osl⟩) (h3 : PySem.W.codeIn K cdv x = true) (h4 : PySem.W.keepIn K (.ref a) = true) (h5 : DefsOk K rs) :
    DefsOk K (⟨x, f, d, st, N, ps⟩ :: rs) := ⟨⟨a, oc, od, kV, doc, pm, an, cdv, ct, osl, h1, h2, h3, h4⟩, h5⟩
def BindFact (r : Row) : Prop := ∀ (kV doc pm : Value) (an : Option Addr) (cdv ct : Value) (us : List Value), us.length = r.ps.length → bindArgs (PySem.W.fnOf r.x r.x (defArgs r.st) (defBody r.st) (defScope r.st) .none kV doc pm an cdv ct) ⟨us, []⟩ = pure (r.ps.zip us)
def BindsOk : List Row → Prop
  | [] => True
  | r :: rs => BindFact r ∧ BindsOk rs
def PtOk (pt : Nat → Option Df) : List Row → Prop
  | [] => True
  | r :: rs => pt r.f = some r.d ∧ PtOk pt rs
/-- a def's text against its core term -/
def rowChk (nm gl exs cls : List (Str × Nat)) (r : Row) : Bool :=
  decide ((defScope r.st).kind = .function) && !(defScope r.st).isCoroutine && !(defScope r.st).isGenerator && decide r.N.Nodup && decide (r.N.take r.ps.length = r.ps)
  && r.ps.all (fun x => decide ((defScope r.st).names.lookup x = some .local) || decide ((defScope r.st).names.lookup x = some .cell)) && (defScope r.st).names.all (fun y => decide (y.2 ≠ .free))
  && decide (r.d.slots = r.N.length) && decide (r.d.pars = r.ps.length) && chkS r.d.body ⟨r.N, defScope r.st, fun _ => true, nm, gl, exs, cls⟩ (defBody r.st)
def isRefB : Value → Bool
  | .ref _ => true
  | _ => false
def VEb : List Value := [.type "ValueError", .type "Exception", .type "BaseException", .type "object"]
def excOk (K : PySem.W.Frag) (C : Addr) : Bool := PySem.W.keepIn K (.ref C) && PySem.W.excIn K C VEb "ValueError.__new__" && PySem.W.subIn K (.ref C) (.type "BaseException") == some true && PySem.W.typeIn K (.ref C) == some (.type "type")
def excCk (K : PySem.W.Frag) (D : Addr) : Bool :=
  PySem.W.findIn K (.ref D) "__getattribute__" == some (some (.builtin "BaseException.__getattribute__")) && PySem.W.findIn K (.ref D) "__getattr__" == some none && PySem.W.subIn K (.ref D) (.type "BaseException") == some true && PySem.W.hasDictIn K D
  && PySem.W.findIn K (.ref D) "__class__" == some (some (.builtin "object.__class__")) && PySem.W.specialIn K (.builtin "object.__class__") "__get__" == some (some (.builtin "getset_descriptor.__get__")) && PySem.W.takesIn K (.builtin "object.__class__") == some true && PySem.W.mroIn K D (.type "object") == some true
/-- the classes that may be raised (rs), told apart by those that are named -/
def tabChk (K : PySem.W.Frag) (rows : List Row) (exs cls : List (Str × Nat)) (rs : List Nat) (sub : Nat → Nat → Option Bool) : Bool :=
  blts.all (fun x => PySem.W.nsIn K mainGlobals x == some none) && PySem.W.nsIn K mainGlobals "ValueError" == some none
  && exs.all (fun p => isRefB (valOf K p.1) && PySem.W.nsIn K mainGlobals p.1 == some (some (valOf K p.1)) && exvOf K cls p.2 == valOf K p.1 && excOk K (adrV (valOf K p.1)))
  && cls.all (fun p => decide (p.1 = "ValueError") || (isRefB (valOf K p.1) && PySem.W.nsIn K mainGlobals p.1 == some (some (valOf K p.1))))
  && rs.all (fun k => isRefB (exvOf K cls k) && excCk K (adrV (exvOf K cls k)) && cls.all fun p => (match sub k p.2 with
    | some b => PySem.W.exmOne K (exvOf K cls k) (clV K p.1) == some b && PySem.W.kitOne K (exvOf K cls k) (clV K p.1) == some b
    | none => true))
def GlOk (K : PySem.W.Frag) (gv : Nat → Option D) : List (Str × Nat) → Prop
  | [] => True
  | p :: r => (∃ u v d, PySem.W.nsIn K mainGlobals p.1 = some (some u) ∧ RelV v u ∧ gv p.2 = some d ∧ ∀ S F μ, Rep S F μ d v) ∧ GlOk K gv r
theorem gl_int {K : PySem.W.Frag} {gv : Nat → Option D} {x : Str} {g : Nat} {l : List (Str × Nat)} {i : Int} {tk : Tok} (h1 : PySem.W.nsIn K mainGlobals x = some (some (.int i tk))) (h2 : gv g = some (.int i)) (h3 : GlOk K gv l) : GlOk K gv ((x, g) :: l) :=
  ⟨⟨_, .int i, _, h1, ⟨tk, rfl⟩, h2, fun S F μ => by simp only [Rep]⟩, h3⟩
theorem gl_str {K : PySem.W.Frag} {gv : Nat → Option D} {x : Str} {g : Nat} {l : List (Str × Nat)} {i : Str} {tk : Tok} (h1 : PySem.W.nsIn K mainGlobals x = some (some (.str i tk))) (h2 : gv g = some (.str i)) (h3 : GlOk K gv l) : GlOk K gv ((x, g) :: l) :=
  ⟨⟨_, .str i, _, h1, ⟨tk, rfl⟩, h2, fun S F μ => by simp only [Rep]⟩, h3⟩
theorem isRef_eq {v : Value} (h : isRefB v = true) : v = .ref (adrV v) := by cases v <;> first | rfl | cases h
theorem lookup_mem' {l : List (Str × Nat)} {x : Str} {f : Nat} (h : l.lookup x = some f) : (x, f) ∈ l := by
  induction l with
  | nil => cases h
  | cons p l ih =>
    obtain ⟨y, g⟩ := p
    rw [List.lookup_cons] at h
    split at h
    · rename_i e
      cases h
      rw [eq_of_beq e]
      exact List.mem_cons_self
    · exact List.mem_cons_of_mem _ (ih h)
theorem defs_at {K : PySem.W.Frag} {r : Row} : ∀ {rows : List Row}, DefsOk K rows → r ∈ rows → ∃ a, DefFact K r.x r.st a
  | [], _, h => by cases h
  | q :: rows, D, h => by
    rcases List.mem_cons.mp h with rfl | h
    · exact D.1
    · exact defs_at D.2 h
theorem binds_at {r : Row} : ∀ {rows : List Row}, BindsOk rows → r ∈ rows → BindFact r
  | [], _, h => by cases h
  | q :: rows, D, h => by
    rcases List.mem_cons.mp h with rfl | h
    · exact D.1
    · exact binds_at D.2 h
theorem pt_at {pt : Nat → Option Df} {r : Row} : ∀ {rows : List Row}, PtOk pt rows → r ∈ rows → pt r.f = some r.d
  | [], _, h => by cases h
  | q :: rows, D, h => by
    rcases List.mem_cons.mp h with rfl | h
    · exact D.1
    · exact pt_at D.2 h
theorem gl_at {K : PySem.W.Frag} {gv : Nat → Option D} {p : Str × Nat} : ∀ {l : List (Str × Nat)}, GlOk K gv l → p ∈ l → ∃ u v d, PySem.W.nsIn K mainGlobals p.1 = some (some u) ∧ RelV v u ∧ gv p.2 = some d ∧ ∀ S F μ, Rep S F μ d v
  | [], _, h => by cases h
  | q :: rows, D, h => by
    rcases List.mem_cons.mp h with rfl | h
    · exact D.1
    · exact gl_at D.2 h
theorem find_nodup : ∀ {rows : List Row} {r : Row}, (rows.map (·.f)).Nodup → r ∈ rows → rows.find? (fun q => q.f == r.f) = some r
  | [], _, _, h => by cases h
  | q :: rows, r, nd, h => by
    rw [List.map_cons, List.nodup_cons] at nd
    rw [List.find?_cons]
    rcases List.mem_cons.mp h with rfl | h
    · simp
    · have ne : (q.f == r.f) = false := by
        rw [beq_eq_false_iff_ne]
        intro e
        exact nd.1 (e ▸ List.mem_map_of_mem h)
      rw [ne]
      exact find_nodup nd.2 h
theorem tab_ok {P : Program} {w : World} {K : PySem.W.Frag} {h : Heap} {mg : Str → Option Value} {rows : List Row} {gl exs cls : List (Str × Nat)} {pt : Nat → Option Df} {gv : Nat → Option D} {rs : List Nat} {sub : Nat → Nat → Option Bool}
    (X : K.In h) (G : h.Ns mainGlobals mg) (nd : (rows.map (·.f)).Nodup) (PT : PtOk pt rows) (B : BindsOk rows) (R : rows.all (rowChk (nmOf rows) gl exs cls) = true) (hs : ∀ k c b, sub k c = some b → k ∈ rs) (D : DefsOk K rows) (GL : GlOk K gv gl) (C : tabChk K rows exs cls rs sub = true) :
    PrF P w K mg ⟨P, w, K, fnvOf K rows, exvOf K cls⟩ (nmOf rows) gl exs cls pt gv sub ∧ ∀ r ∈ rows, ∃ adr fd, pt r.f = some r.d ∧ mg r.x = some (.ref adr) ∧ FnC K mg ⟨P, w, K, fnvOf K rows, exvOf K cls⟩ (nmOf rows) gl exs cls r.x r.f r.d adr fd r.ps := by
  have fnc : ∀ r ∈ rows, ∃ adr fd, pt r.f = some r.d ∧ mg r.x = some (.ref adr) ∧ FnC K mg ⟨P, w, K, fnvOf K rows, exvOf K cls⟩ (nmOf rows) gl exs cls r.x r.f r.d adr fd r.ps := fun r hr => by
    obtain ⟨a, oc, od, kV, doc, pm, an, cdv, ct, osl, h1, h2, h3, h4⟩ := defs_at D hr
    have ck := List.all_eq_true.mp R r hr
    simp only [rowChk, Bool.and_eq_true, decide_eq_true_eq, Bool.not_eq_true', List.all_eq_true, Bool.or_eq_true] at ck
    obtain ⟨⟨⟨⟨⟨⟨⟨⟨⟨c1, c2⟩, c3⟩, c4⟩, c5⟩, c6⟩, c7⟩, c8⟩, c9⟩, c10⟩ := ck
    have m := PySem.W.mg_of X G h1
    have e1 : valOf K r.x = .ref a := by unfold valOf; rw [h1]
    refine ⟨a, PySem.W.fnOf r.x r.x (defArgs r.st) (defBody r.st) (defScope r.st) .none kV doc pm an cdv ct, pt_at PT hr, m, ⟨r.st, r.N, fun_mk (st := r.st) h2 h3 h4, ⟨c1, c2, c3, c4, c5, c6, c7⟩, c8, c10⟩, m, ?_, c9, binds_at B hr kV doc pm an cdv ct⟩
    show fnvOf K rows r.f = .ref a
    unfold fnvOf
    rw [find_nodup nd hr]
    dsimp only
    rw [e1]; rfl
  simp only [tabChk, Bool.and_eq_true, List.all_eq_true, Bool.or_eq_true, decide_eq_true_eq, beq_iff_eq] at C
  obtain ⟨⟨⟨⟨t1, t2⟩, t3⟩, t4⟩, t5⟩ := C
  refine ⟨⟨rfl, rfl, rfl, fun f => ?_, fun x f hx => ?_, fun x g hx => ?_, fun x hx => PySem.W.mg_none_of X G (t1 x hx), fun x c hx => ?_, fun x c hx => ?_⟩, fnc⟩
  · show fnvOf K rows f ≠ .non
    unfold fnvOf
    split <;> exact fun z => by cases z
  · have hm := lookup_mem' hx
    obtain ⟨r, hr, e⟩ := List.mem_map.mp hm
    cases e
    obtain ⟨adr, fd, h1, h2, h3⟩ := fnc r hr
    exact ⟨r.d, adr, fd, r.ps, h1, h3⟩
  · obtain ⟨u, v, d, h1, h2, h3, h4⟩ := gl_at GL (lookup_mem' hx)
    exact ⟨u, v, d, PySem.W.mg_of X G h1, h2, h3, fun F μ => h4 _ F μ⟩
  · obtain ⟨⟨⟨e1, e2⟩, e3⟩, e4⟩ := t3 _ (lookup_mem' hx)
    dsimp only at e1 e2 e3 e4
    rw [isRef_eq e1] at e2 e3
    simp only [excOk, Bool.and_eq_true, beq_iff_eq] at e4
    exact ⟨adrV (valOf K x), e3, PySem.W.mg_of X G e2, e4.1.1.1, _, _, _, _, PySem.F.excBase_ValueError, e4.1.1.2, e4.1.2, e4.2⟩
  · have hm := lookup_mem' hx
    have main : ∀ k b, sub k c = some b → PySem.W.exmOne K (exvOf K cls k) (clV K x) = some b ∧ ∃ D : Addr, exvOf K cls k = .ref D ∧ ExcC K D ∧ PySem.W.kitOne K (.ref D) (clV K x) = some b := fun k b hb => by
      obtain ⟨⟨s1, s2⟩, s3⟩ := t5 k (hs k c b hb)
      have s4 := s3 _ hm
      dsimp only at s4
      rw [hb] at s4
      simp only [Bool.and_eq_true, beq_iff_eq] at s4
      simp only [excCk, Bool.and_eq_true, beq_iff_eq] at s2
      obtain ⟨⟨⟨⟨⟨⟨⟨u1, u2⟩, u3⟩, u4⟩, u5⟩, u6⟩, u7⟩, u8⟩ := s2
      refine ⟨s4.1, _, isRef_eq s1, ⟨u1, u2, u3, u4, u5, u6, u7, u8⟩, ?_⟩
      rw [← isRef_eq s1]
      exact s4.2
    rcases t4 _ hm with e | ⟨e1, e2⟩
    · dsimp only at e
      subst e
      refine ⟨.type "ValueError", .ty "ValueError", rfl, fun u z => z, .inr ⟨PySem.W.mg_none_of X G t2, by decide +kernel, by decide⟩, ?_⟩
      have : clV K "ValueError" = .type "ValueError" := by unfold clV; rw [if_pos rfl]
      rw [this] at main
      exact main
    · dsimp only at e1 e2
      by_cases ev : x = "ValueError"
      · subst ev
        rw [t2] at e2
        cases e2
      · have ec : clV K x = .ref (adrV (valOf K x)) := by unfold clV; rw [if_neg ev]; exact isRef_eq e1
        rw [isRef_eq e1] at e2
        rw [ec] at main
        exact ⟨_, .ref (adrV (valOf K x)), rfl, fun u z => z, .inl (PySem.W.mg_of X G e2), main⟩
/-- THE END by a table -/
theorem law_endT {l : PySem.W.OpenLaw} {n m fuel : Nat} {q : Program} {loose : List Str} {XP : (Str → Option Value) → Heap → Prop} {YP : World → Heap → Prop} {d : DefRec} {K : Params → PySem.W.Frag} {x : Str}
    {rows : List Row} {gl exs cls : List (Str × Nat)} {pt : Nat → Option Df} {gv : Nat → Option D} {rs : List Nat} {sub : Nat → Nat → Option Bool}
    (hn : l.most = some n) (hn2 : n ≤ sizeLine) (hdf : d.params.defaults = []) (hr : Room (3 * m) callerA) (hY : ∀ (w : World) (h : Heap), YP w h → (K w.params).In h)
    (nd : (rows.map (·.f)).Nodup) (PT : PtOk pt rows) (B : BindsOk rows) (R : rows.all (rowChk (nmOf rows) gl exs cls) = true) (hs : ∀ k c b, sub k c = some b → k ∈ rs) (lr : Row) (hlr : lr ∈ rows) (hx : lr.x = d.name) (hps : lr.ps = [x])
    (main : ∀ ns : List Int, ns.length ≤ n → ∃ w', evC pt gv sub fuel m lr.f [.lst (ns.map D.int)] [] = some (.ok (.val, .bl true) w'))
    (D : ∀ w : World, DefsOk (K w.params) rows) (GL : ∀ w : World, GlOk (K w.params) gv gl) (C : ∀ w : World, tabChk (K w.params) rows exs cls rs sub = true) :
    PySem.W.WalkO q loose XP YP l.row.toRowW d [] (fun f vs => PySem.call f vs) := by
  refine law_end (x := x) (S := fun w => ⟨l.prog, w, K w.params, fnvOf (K w.params) rows, exvOf (K w.params) cls⟩) (nm := nmOf rows) (gl := gl) (exs := exs) (cls := cls) (pt := pt) (gv := gv) (sub := sub) hn hn2 hdf hr hY (fun _ => rfl) (fun w mg fa h KX G e => ?_) main
  obtain ⟨P, fn⟩ := tab_ok (P := l.prog) (w := w) KX G nd PT B R hs (D w) (GL w) (C w)
  obtain ⟨adr, fd, h1, h2, h3⟩ := fn lr hlr
  rw [hx, e] at h2
  cases h2
  rw [hx, hps] at h3
  exact ⟨P, lr.d, fd, h1, h3⟩
end R
end
section
set_option Elab.async false
set_option linter.all false
/-! MA: sorted lists; no program in sight. -/
namespace R
open PySem

/-- a strict order that tells any two apart -/
structure SO {α : Type} (lt : α → α → Bool) : Prop where
  irr : ∀ a, lt a a = false
  tr : ∀ a b c, lt a b = true → lt b c = true → lt a c = true
  tri : ∀ a b, lt a b = true ∨ a = b ∨ lt b a = true
section
variable {α : Type} {lt : α → α → Bool}
theorem SO.asy (h : SO lt) {a b : α} (x : lt a b = true) : lt b a = false := by
  cases e : lt b a with
  | false => rfl
  | true => have := h.tr _ _ _ x e; rw [h.irr] at this; cases this
theorem SO.ne (h : SO lt) {a b : α} (x : lt a b = true) : a ≠ b := by rintro rfl; rw [h.irr] at x; cases x
def srt (lt : α → α → Bool) (l : List α) : List α := l.mergeSort fun a b => !lt b a
/-- ascending -/
abbrev Asc (lt : α → α → Bool) (l : List α) : Prop := l.Pairwise fun a b => lt a b = true
theorem mem_srt {l : List α} {a : α} : a ∈ srt lt l ↔ a ∈ l := (List.mergeSort_perm _ _).mem_iff
theorem srt_perm (l : List α) : (srt lt l).Perm l := List.mergeSort_perm _ _
theorem srt_length (l : List α) : (srt lt l).length = l.length := (srt_perm l).length_eq
theorem Asc.nodup (h : SO lt) {l : List α} (a : Asc lt l) : l.Nodup := a.imp fun x => h.ne x
theorem srt_asc (h : SO lt) {l : List α} (nd : l.Nodup) : Asc lt (srt lt l) := by
  have p : (srt lt l).Pairwise fun a b => (!lt b a) = true := by
    refine List.pairwise_mergeSort (le := fun a b => !lt b a) (fun a b c x y => ?_) (fun a b => ?_) l
    · simp only [Bool.not_eq_true'] at x y ⊢
      cases e : lt c a with
      | false => rfl
      | true =>
        rcases h.tri a b with t | t | t
        · have := h.tr _ _ _ e t
          rw [this] at y; cases y
        · subst t; rw [e] at y; cases y
        · rw [t] at x; cases x
    · rcases h.tri a b with t | t | t
      · simp [h.asy t]
      · subst t; simp [h.irr]
      · simp [h.asy t]
  have n2 : (srt lt l).Nodup := (srt_perm l).nodup_iff.mpr nd
  exact (p.and n2).imp fun {a b} x => by
    rcases h.tri a b with t | t | t
    · exact t
    · exact absurd t x.2
    · have := x.1; rw [t] at this; cases this
theorem asc_ext (h : SO lt) : ∀ {l m : List α}, Asc lt l → Asc lt m → (∀ x, x ∈ l ↔ x ∈ m) → l = m
  | [], [], _, _, _ => rfl
  | [], b :: m, _, _, e => by have := (e b).mpr List.mem_cons_self; cases this
  | a :: l, [], _, _, e => by have := (e a).mp List.mem_cons_self; cases this
  | a :: l, b :: m, p, q, e => by
    have p' := List.pairwise_cons.mp p
    have q' := List.pairwise_cons.mp q
    have hab : a = b := by
      rcases List.mem_cons.mp ((e a).mp List.mem_cons_self) with t | t
      · exact t
      · rcases List.mem_cons.mp ((e b).mpr List.mem_cons_self) with u | u
        · exact u.symm
        · have := h.asy (q'.1 a t)
          rw [p'.1 b u] at this; cases this
    subst hab
    rw [asc_ext h p'.2 q'.2 fun x => ?_]
    constructor
    · intro hx
      rcases List.mem_cons.mp ((e x).mp (List.mem_cons_of_mem _ hx)) with t | t
      · exact absurd t (h.ne (p'.1 x hx)).symm
      · exact t
    · intro hx
      rcases List.mem_cons.mp ((e x).mpr (List.mem_cons_of_mem _ hx)) with t | t
      · exact absurd t (h.ne (q'.1 x hx)).symm
      · exact t
theorem srt_self (h : SO lt) {l : List α} (a : Asc lt l) : srt lt l = l :=
  asc_ext h (srt_asc h (a.nodup h)) a fun x => mem_srt
/-- the only ascending list of these members -/
theorem srt_eq (h : SO lt) {l m : List α} (nd : l.Nodup) (a : Asc lt m) (e : ∀ x, x ∈ l ↔ x ∈ m) : srt lt l = m :=
  asc_ext h (srt_asc h nd) a fun x => mem_srt.trans (e x)
end
/-! ### orders -/
def iLt (a b : Int) : Bool := decide (a < b)
theorem so_iLt : SO iLt := ⟨fun a => by simp [iLt], fun a b c x y => by simp only [iLt, decide_eq_true_eq] at *; omega, fun a b => by simp only [iLt, decide_eq_true_eq]; omega⟩
section
variable {α β : Type}
def lxLt (lt : α → α → Bool) [DecidableEq α] : List α → List α → Bool
  | [], [] => false
  | [], _ :: _ => true
  | _ :: _, [] => false
  | x :: xs, y :: ys => if x = y then lxLt lt xs ys else lt x y
theorem so_lx [DecidableEq α] {lt : α → α → Bool} (h : SO lt) : SO (lxLt lt) := by
  refine ⟨fun a => ?_, fun a => ?_, fun a => ?_⟩
  · induction a with
    | nil => rfl
    | cons x xs ih => simp [lxLt, ih]
  · induction a with
    | nil =>
      intro b c x y
      cases b with
      | nil => simp [lxLt] at x
      | cons b bs => cases c with
        | nil => simp [lxLt] at y
        | cons c cs => rfl
    | cons a as ih =>
      intro b c x y
      cases b with
      | nil => simp [lxLt] at x
      | cons b bs => cases c with
        | nil => simp [lxLt] at y
        | cons c cs =>
          simp only [lxLt] at x y ⊢
          by_cases e1 : a = b
          · subst e1
            rw [if_pos rfl] at x
            by_cases e2 : a = c
            · subst e2
              rw [if_pos rfl] at y ⊢
              exact ih _ _ x y
            · rw [if_neg e2] at y ⊢
              exact y
          · rw [if_neg e1] at x
            by_cases e2 : b = c
            · subst e2
              rw [if_neg e1]
              exact x
            · rw [if_neg e2] at y
              have t := h.tr _ _ _ x y
              rw [if_neg (h.ne t)]
              exact t
  · induction a with
    | nil => intro b; cases b <;> simp [lxLt]
    | cons a as ih =>
      intro b
      cases b with
      | nil => simp [lxLt]
      | cons b bs =>
        simp only [lxLt]
        by_cases e : a = b
        · subst e
          simp only [if_true]
          rcases ih bs with t | t | t
          · exact .inl t
          · exact .inr (.inl (by rw [t]))
          · exact .inr (.inr t)
        · have e' : ¬ b = a := fun z => e z.symm
          rw [if_neg e, if_neg e']
          rcases h.tri a b with t | t | t
          · exact .inl t
          · exact absurd t e
          · exact .inr (.inr t)
/-- first by the length -/
def lenLt (lt : List α → List α → Bool) (a b : List α) : Bool := decide (a.length < b.length) || (decide (a.length = b.length) && lt a b)
theorem so_len {lt : List α → List α → Bool} (h : SO lt) : SO (lenLt lt) := by
  refine ⟨fun a => by simp [lenLt, h.irr], fun a b c x y => ?_, fun a b => ?_⟩
  · simp only [lenLt, Bool.or_eq_true, Bool.and_eq_true, decide_eq_true_eq] at *
    rcases x with x | ⟨x, x'⟩ <;> rcases y with y | ⟨y, y'⟩
    · exact .inl (by omega)
    · exact .inl (by omega)
    · exact .inl (by omega)
    · exact .inr ⟨by omega, h.tr _ _ _ x' y'⟩
  · simp only [lenLt, Bool.or_eq_true, Bool.and_eq_true, decide_eq_true_eq]
    rcases Nat.lt_trichotomy a.length b.length with t | t | t
    · exact .inl (.inl t)
    · rcases h.tri a b with u | u | u
      · exact .inl (.inr ⟨t, u⟩)
      · exact .inr (.inl u)
      · exact .inr (.inr (.inr ⟨t.symm, u⟩))
    · exact .inr (.inr (.inl t))
/-- first by the first -/
def prLt [DecidableEq α] (lt : α → α → Bool) (lt' : β → β → Bool) (a b : α × β) : Bool := if a.1 = b.1 then lt' a.2 b.2 else lt a.1 b.1
theorem so_pr [DecidableEq α] {lt : α → α → Bool} {lt' : β → β → Bool} (h : SO lt) (h' : SO lt') : SO (prLt lt lt') := by
  refine ⟨fun a => by simp [prLt, h'.irr], fun a b c x y => ?_, fun a b => ?_⟩
  · simp only [prLt] at *
    by_cases e1 : a.1 = b.1
    · rw [if_pos e1] at x
      by_cases e2 : b.1 = c.1
      · rw [if_pos e2] at y
        rw [if_pos (e1.trans e2)]
        exact h'.tr _ _ _ x y
      · rw [if_neg e2] at y
        rw [if_neg (by rw [e1]; exact e2), e1]
        exact y
    · rw [if_neg e1] at x
      by_cases e2 : b.1 = c.1
      · rw [if_neg (by rw [← e2]; exact e1), ← e2]
        exact x
      · rw [if_neg e2] at y
        have t := h.tr _ _ _ x y
        rw [if_neg (h.ne t)]
        exact t
  · simp only [prLt]
    by_cases e : a.1 = b.1
    · rw [if_pos e, if_pos e.symm]
      rcases h'.tri a.2 b.2 with t | t | t
      · exact .inl t
      · exact .inr (.inl (Prod.ext e t))
      · exact .inr (.inr t)
    · rw [if_neg e, if_neg (fun z => e z.symm)]
      rcases h.tri a.1 b.1 with t | t | t
      · exact .inl t
      · exact absurd t e
      · exact .inr (.inr t)
end
/-- the order of simplices as tuples -/
abbrev sLt : (List Int) → (List Int) → Bool := lxLt iLt
/-- by dimension first -/
abbrev kLt : (List Int) → (List Int) → Bool := lenLt sLt
theorem so_sLt : SO sLt := so_lx so_iLt
theorem so_kLt : SO kLt := so_len so_sLt
abbrev pLt : (List Int × List Int) → (List Int × List Int) → Bool := prLt kLt kLt
theorem so_pLt : SO pLt := so_pr so_kLt so_kLt
theorem mem_ddR {α : Type} [DecidableEq α] {x : α} : ∀ {l : List α}, x ∈ dd l ↔ x ∈ l
  | [] => by simp [dd]
  | y :: l => by
    unfold dd
    split
    · rename_i h
      rw [mem_ddR, List.mem_cons]
      exact ⟨.inr, fun z => z.elim (fun e => e ▸ h) id⟩
    · rw [List.mem_cons, List.mem_cons, mem_ddR]
theorem nodup_ddR {α : Type} [DecidableEq α] : ∀ (l : List α), (dd l).Nodup
  | [] => by simp [dd]
  | y :: l => by
    unfold dd
    split
    · exact nodup_ddR l
    · rename_i h
      exact List.nodup_cons.mpr ⟨fun z => h (mem_ddR.mp z), nodup_ddR l⟩
theorem nodup_len_le {α : Type} [DecidableEq α] : ∀ {l m : List α}, l.Nodup → (∀ x ∈ l, x ∈ m) → l.length ≤ m.length
  | [], _, _, _ => Nat.zero_le _
  | x :: l, m, nd, h => by
    rw [List.nodup_cons] at nd
    have hx := h x List.mem_cons_self
    have := nodup_len_le (m := m.erase x) nd.2 fun y hy => (List.mem_erase_of_ne fun e => nd.1 (by rw [← e]; exact hy)).mpr (h y (List.mem_cons_of_mem _ hy))
    rw [List.length_erase_of_mem hx] at this
    have : 0 < m.length := List.length_pos_of_mem hx
    simp only [List.length_cons]
    omega
/-- set(l), sorted -/
def sset {α : Type} [DecidableEq α] (lt : α → α → Bool) (l : List α) : List α := srt lt (dd l)
theorem sset_asc {α : Type} [DecidableEq α] {lt : α → α → Bool} (h : SO lt) (l : List α) : Asc lt (sset lt l) := srt_asc h (nodup_ddR l)
theorem mem_sset {α : Type} [DecidableEq α] {lt : α → α → Bool} {l : List α} {x : α} : x ∈ sset lt l ↔ x ∈ l := mem_srt.trans mem_ddR
theorem sset_eq {α : Type} [DecidableEq α] {lt : α → α → Bool} (h : SO lt) {l m : List α} (a : Asc lt m) (e : ∀ x, x ∈ l ↔ x ∈ m) : sset lt l = m := srt_eq h (nodup_ddR l) a fun x => mem_ddR.trans (e x)
end R
end
section
set_option Elab.async false
set_option maxRecDepth 100000
/-! PL: the defs of the texts in the core language (printed by gen.py lib). -/
namespace R
open PySem
def D_is_integer : Df := ⟨1, 1, (.cons (.ret (.and (.blt (.isa .int) (.var 0)) (.not (.blt (.isa .bool) (.var 0))))) .nil)⟩
def D_is_vertex (f_is_integer : Nat) : Df := ⟨1, 1, (.cons (.ret (.and (.call f_is_integer (.cons (.var 0) .nil)) (.chain .le .le (.int 0) (.var 0) (.int 7)))) .nil)⟩
def D_is_ascending : Df := ⟨1, 3, (.cons (.ret (.blt .all (.lc [1, 2] (.many [1, 2]) (.iz (.cons (.var 0) (.cons (.slce (.var 0) (.int 1) .nil) .nil))) (.bl true) (.cmp .lt (.var 1) (.var 2))))) .nil)⟩
def D_is_simplex (f_is_ascending f_is_vertex : Nat) : Df := ⟨1, 2, (.cons (.ite (.or (.not (.blt (.isa .tuple) (.var 0))) (.or (.not (.chain .le .le (.int 1) (.blt .len (.var 0)) (.int 4))) (.not (.blt .all (.lc [1] (.one 1) (.iv (.var 0)) (.bl true) (.call f_is_vertex (.cons (.var 1) .nil))))))) (.cons (.ret (.bl false)) .nil) .nil) (.cons (.ret (.call f_is_ascending (.cons (.var 0) .nil))) .nil))⟩
def D_simplex_key : Df := ⟨1, 1, (.cons (.ret (.tup (.cons (.blt .len (.var 0)) (.cons (.var 0) .nil)))) .nil)⟩
def D_subsets : Df := ⟨1, 4, (.cons (.asg (.one 1) (.lst (.cons (.tup .nil) .nil))) (.cons (.frz 1) (.cons (.for (.one 2) (.iv (.var 0)) (.cons (.asg (.one 1) (.bin .add (.var 1) (.lc [3] (.one 3) (.iv (.var 1)) (.bl true) (.bin .add (.var 3) (.tup (.cons (.var 2) .nil)))))) (.cons (.frz 1) .nil))) (.cons (.ret (.slce (.var 1) (.int 1) .nil)) .nil))))⟩
def D_closure (f_simplex_key f_subsets : Nat) : Df := ⟨1, 4, (.cons (.asg (.one 1) (.dic .nil)) (.cons (.for (.one 2) (.iv (.var 0)) (.cons (.for (.one 3) (.iv (.call f_subsets (.cons (.var 2) .nil))) (.cons (.put 1 (.var 3) (.bl true)) .nil)) .nil)) (.cons (.ret (.blt .tuple (.sortk f_simplex_key true (.var 1)))) .nil)))⟩
def D_does_contain : Df := ⟨2, 3, (.cons (.ret (.blt .all (.lc [2] (.one 2) (.iv (.var 1)) (.bl true) (.cmp .isin (.var 2) (.var 0))))) .nil)⟩
def D_maximal (f_does_contain f_simplex_key : Nat) : Df := ⟨1, 4, (.cons (.asg (.one 1) (.lst .nil)) (.cons (.for (.one 2) (.iv (.var 0)) (.cons (.ite (.not (.blt .any (.lc [3] (.one 3) (.iv (.var 0)) (.bl true) (.and (.cmp .ne (.var 3) (.var 2)) (.call f_does_contain (.cons (.var 3) (.cons (.var 2) .nil))))))) (.cons (.app 1 (.var 2)) .nil) .nil) .nil)) (.cons (.ret (.blt .tuple (.sortk f_simplex_key false (.var 1)))) .nil)))⟩
def D_is_good (f_closure f_is_ascending f_is_simplex f_maximal f_simplex_key g0 : Nat) : Df := ⟨1, 2, (.cons (.ite (.or (.not (.blt (.isa .tuple) (.var 0))) (.or (.cmp .eq (.var 0) (.tup .nil)) (.not (.blt .all (.lc [1] (.one 1) (.iv (.var 0)) (.bl true) (.call f_is_simplex (.cons (.var 1) .nil))))))) (.cons (.ret (.bl false)) .nil) .nil) (.cons (.ite (.or (.not (.call f_is_ascending (.cons (.lc [1] (.one 1) (.iv (.var 0)) (.bl true) (.call f_simplex_key (.cons (.var 1) .nil))) .nil))) (.cmp .ne (.call f_maximal (.cons (.var 0) .nil)) (.var 0))) (.cons (.ret (.bl false)) .nil) .nil) (.cons (.ret (.cmp .le (.blt .len (.call f_closure (.cons (.var 0) .nil))) (.gl g0))) .nil)))⟩
def D_is_complex (f_is_good : Nat) : Df := ⟨1, 1, (.cons (.ret (.call f_is_good (.cons (.var 0) .nil))) .nil)⟩
def D_check_complex (c_InvalidComplex f_is_good : Nat) : Df := ⟨1, 1, (.cons (.ite (.not (.call f_is_good (.cons (.var 0) .nil))) (.cons (.rai c_InvalidComplex .nil) .nil) .nil) .nil)⟩
def D_generated (c_InvalidSimplex c_TooLarge f_closure f_is_simplex f_maximal g0 : Nat) : Df := ⟨1, 3, (.cons (.ite (.or (.not (.blt (.isa .tuple) (.var 0))) (.or (.cmp .eq (.var 0) (.tup .nil)) (.not (.blt .all (.lc [2] (.one 2) (.iv (.var 0)) (.bl true) (.call f_is_simplex (.cons (.var 2) .nil))))))) (.cons (.rai c_InvalidSimplex .nil) .nil) .nil) (.cons (.asg (.one 1) (.call f_closure (.cons (.var 0) .nil))) (.cons (.frz 1) (.cons (.ite (.cmp .gt (.blt .len (.var 1)) (.gl g0)) (.cons (.rai c_TooLarge .nil) .nil) .nil) (.cons (.ret (.call f_maximal (.cons (.var 1) .nil))) .nil)))))⟩
def D_simplices (f_check_complex f_closure : Nat) : Df := ⟨1, 1, (.cons (.ex (.call f_check_complex (.cons (.var 0) .nil))) (.cons (.ret (.call f_closure (.cons (.var 0) .nil))) .nil))⟩
def D_dimension_of : Df := ⟨1, 1, (.cons (.ret (.bin .sub (.blt .len (.idx (.var 0) (.neg (.int 1)))) (.int 1))) .nil)⟩
def D_counts_of (f_dimension_of : Nat) : Df := ⟨2, 5, (.cons (.asg (.one 2) (.lc [3] (.one 3) (.iv (.var 1)) (.bl true) (.blt .len (.var 3)))) (.cons (.frz 2) (.cons (.ret (.blt .tuple (.lc [4] (.one 4) (.ir (.cons (.int 1) (.cons (.bin .add (.call f_dimension_of (.cons (.var 0) .nil)) (.int 2)) .nil))) (.bl true) (.mth .count (.var 2) (.var 4))))) .nil)))⟩
def D_counts (f_check_complex f_closure f_counts_of : Nat) : Df := ⟨1, 1, (.cons (.ex (.call f_check_complex (.cons (.var 0) .nil))) (.cons (.ret (.call f_counts_of (.cons (.var 0) (.cons (.call f_closure (.cons (.var 0) .nil)) .nil)))) .nil))⟩
def D_euler_of : Df := ⟨1, 3, (.cons (.ret (.blt .sum (.lc [1, 2] (.many [1, 2]) (.ie (.cons (.var 0) .nil)) (.bl true) (.ite (.cmp .eq (.bin .mod (.var 1) (.int 2)) (.int 0)) (.var 2) (.neg (.var 2)))))) .nil)⟩
def D_euler (f_check_complex f_closure f_counts_of f_euler_of : Nat) : Df := ⟨1, 1, (.cons (.ex (.call f_check_complex (.cons (.var 0) .nil))) (.cons (.ret (.call f_euler_of (.cons (.call f_counts_of (.cons (.var 0) (.cons (.call f_closure (.cons (.var 0) .nil)) .nil))) .nil))) .nil))⟩
def D_faces_of : Df := ⟨1, 2, (.cons (.ite (.cmp .eq (.blt .len (.var 0)) (.int 1)) (.cons (.ret (.tup .nil)) .nil) .nil) (.cons (.ret (.blt .tuple (.blt .sorted (.lc [1] (.one 1) (.ir (.cons (.blt .len (.var 0)) .nil)) (.bl true) (.bin .add (.slce (.var 0) .nil (.var 1)) (.slce (.var 0) (.bin .add (.var 1) (.int 1)) .nil)))))) .nil))⟩
def D_faces (c_InvalidSimplex f_faces_of f_is_simplex : Nat) : Df := ⟨1, 1, (.cons (.ite (.not (.call f_is_simplex (.cons (.var 0) .nil))) (.cons (.rai c_InvalidSimplex .nil) .nil) .nil) (.cons (.ret (.call f_faces_of (.cons (.var 0) .nil))) .nil))⟩
def D_cofaces_of (f_faces_of : Nat) : Df := ⟨2, 3, (.cons (.ret (.blt .tuple (.lc [2] (.one 2) (.iv (.var 0)) (.cmp .isin (.var 1) (.call f_faces_of (.cons (.var 2) .nil))) (.var 2)))) .nil)⟩
def D_cofaces (c_InvalidSimplex f_check_complex f_closure f_cofaces_of f_is_simplex : Nat) : Df := ⟨2, 3, (.cons (.ex (.call f_check_complex (.cons (.var 0) .nil))) (.cons (.asg (.one 2) (.call f_closure (.cons (.var 0) .nil))) (.cons (.frz 2) (.cons (.ite (.or (.not (.call f_is_simplex (.cons (.var 1) .nil))) (.cmp .notin (.var 1) (.var 2))) (.cons (.rai c_InvalidSimplex .nil) .nil) .nil) (.cons (.ret (.call f_cofaces_of (.cons (.var 2) (.cons (.var 1) .nil)))) .nil)))))⟩
def D_components_of : Df := ⟨1, 7, (.cons (.asg (.one 1) (.lst .nil)) (.cons (.frz 1) (.cons (.for (.one 2) (.iv (.var 0)) (.cons (.asg (.one 3) (.lc [5] (.one 5) (.iv (.var 1)) (.blt .any (.lc [6] (.one 6) (.iv (.var 2)) (.bl true) (.cmp .isin (.var 6) (.var 5)))) (.var 5))) (.cons (.frz 3) (.cons (.asg (.one 4) (.blt .sortSet (.bin .add (.lc2 [5, 6] (.one 5) (.iv (.var 3)) (.bl true) [6] (.one 6) (.iv (.var 5)) (.bl true) (.var 6)) (.blt .list (.var 2))))) (.cons (.frz 4) (.cons (.asg (.one 1) (.bin .add (.lc [5] (.one 5) (.iv (.var 1)) (.cmp .notin (.var 5) (.var 3)) (.var 5)) (.lst (.cons (.var 4) .nil)))) (.cons (.frz 1) .nil))))))) (.cons (.ret (.blt .tuple (.blt .sorted (.lc [5] (.one 5) (.iv (.var 1)) (.bl true) (.blt .tuple (.var 5)))))) .nil))))⟩
def D_components (f_check_complex f_components_of : Nat) : Df := ⟨1, 1, (.cons (.ex (.call f_check_complex (.cons (.var 0) .nil))) (.cons (.ret (.call f_components_of (.cons (.var 0) .nil))) .nil))⟩
def D_law_town : Df := ⟨1, 1, (.cons (.ret (.bin .add (.lst (.cons (.int 0) .nil)) (.blt .list (.var 0)))) .nil)⟩
def D_law_draw : Df := ⟨3, 6, (.cons (.cput (.var 1) (.int 0) (.bin .add (.rix (.var 1) (.int 0)) (.int 1))) (.cons (.ite (.cmp .eq (.var 0) (.lst .nil)) (.cons (.ret (.bin .mod (.bin .fdiv (.bin .mul (.bin .mul (.rix (.var 1) (.int 0)) (.rix (.var 1) (.int 0))) (.int 7)) (.int 3)) (.var 2))) .nil) .nil) (.cons (.asg (.one 3) (.bin .mod (.rix (.var 1) (.int 0)) (.blt .len (.var 0)))) (.cons (.frz 3) (.cons (.asg (.one 4) (.rix (.var 1) (.bin .add (.int 1) (.var 3)))) (.cons (.frz 4) (.cons (.ite (.and (.cmp .ge (.idx (.var 0) (.var 3)) (.bin .pow (.int 10) (.int 18))) (.cmp .gt (.var 4) (.int 0))) (.cons (.cput (.var 1) (.bin .add (.int 1) (.var 3)) (.bin .fdiv (.var 4) (.var 2))) (.cons (.ret (.bin .mod (.var 4) (.var 2))) .nil)) .nil) (.cons (.asg (.one 5) (.bin .mod (.bin .add (.idx (.var 0) (.var 3)) (.bin .mul (.int 104729) (.rix (.var 1) (.int 0)))) (.int 4294967291))) (.cons (.frz 5) (.cons (.asg (.one 5) (.bin .mod (.bin .pow (.var 5) (.int 5)) (.int 4294967279))) (.cons (.frz 5) (.cons (.ret (.bin .mod (.bin .fdiv (.bin .mod (.bin .add (.bin .mul (.bin .fdiv (.var 5) (.int 64)) (.int 69621)) (.var 5)) (.int 4294967231)) (.int 8)) (.var 2))) .nil))))))))))))⟩
def D_law_outcome (c_MorseError f_law_call f_law_name : Nat) : Df := ⟨2, 5, (.cons (.asg (.one 2) .non) (.cons (.frz 2) (.cons (.asg (.one 3) .non) (.cons (.frz 3) (.cons (.tryc 3 (.call f_law_call (.cons (.var 0) (.cons (.var 1) .nil))) c_MorseError 4 2) (.cons (.ite (.cmp .is (.var 2) .non) (.cons (.ret (.tup (.cons (.str "returned") (.cons (.var 3) .nil)))) .nil) .nil) (.cons (.ret (.tup (.cons (.str "raised") (.cons (.call f_law_name (.cons (.var 2) .nil)) .nil)))) .nil)))))))⟩
def D_law_name (c_Contradiction c_InvalidComplex c_InvalidDimension c_InvalidFunction c_InvalidKnowledge c_InvalidMatching c_InvalidPair c_InvalidPrime c_InvalidSimplex c_InvalidText c_InvalidValue c_NoCancellation c_NotAcyclic c_NotGraph c_NothingToUndo c_TooLarge c_TooMany c_ValueError : Nat) : Df := ⟨1, 2, (.cons (.ite (.not (.isx (.var 0) c_ValueError)) (.cons (.ret (.neg (.int 1))) .nil) .nil) (.cons (.asg (.one 1) (.lst (.cons (.isx (.var 0) c_InvalidComplex) (.cons (.isx (.var 0) c_InvalidSimplex) .nil)))) (.cons (.frz 1) (.cons (.asg (.one 1) (.bin .add (.var 1) (.lst (.cons (.isx (.var 0) c_InvalidDimension) (.cons (.isx (.var 0) c_InvalidPrime) .nil))))) (.cons (.frz 1) (.cons (.asg (.one 1) (.bin .add (.var 1) (.lst (.cons (.isx (.var 0) c_InvalidMatching) (.cons (.isx (.var 0) c_NotAcyclic) .nil))))) (.cons (.frz 1) (.cons (.asg (.one 1) (.bin .add (.var 1) (.lst (.cons (.isx (.var 0) c_InvalidPair) (.cons (.isx (.var 0) c_NoCancellation) .nil))))) (.cons (.frz 1) (.cons (.asg (.one 1) (.bin .add (.var 1) (.lst (.cons (.isx (.var 0) c_InvalidKnowledge) (.cons (.isx (.var 0) c_Contradiction) .nil))))) (.cons (.frz 1) (.cons (.asg (.one 1) (.bin .add (.var 1) (.lst (.cons (.isx (.var 0) c_InvalidFunction) (.cons (.isx (.var 0) c_InvalidValue) .nil))))) (.cons (.frz 1) (.cons (.asg (.one 1) (.bin .add (.var 1) (.lst (.cons (.isx (.var 0) c_NotGraph) (.cons (.isx (.var 0) c_TooLarge) (.cons (.isx (.var 0) c_TooMany) .nil)))))) (.cons (.frz 1) (.cons (.asg (.one 1) (.bin .add (.var 1) (.lst (.cons (.isx (.var 0) c_NothingToUndo) (.cons (.isx (.var 0) c_InvalidText) .nil))))) (.cons (.frz 1) (.cons (.ret (.ite (.cmp .eq (.mth .count (.var 1) (.bl true)) (.int 1)) (.mth .index (.var 1) (.bl true)) (.neg (.int 1)))) .nil))))))))))))))))))⟩
def D_law_raises : Df := ⟨1, 2, (.cons (.asg (.one 1) (.lst (.cons (.str "complex") (.cons (.str "simplex") (.cons (.str "dimension") (.cons (.str "prime") (.cons (.str "matching") (.cons (.str "acyclic") (.cons (.str "pair") (.cons (.str "cancellation") (.cons (.str "knowledge") .nil))))))))))) (.cons (.frz 1) (.cons (.asg (.one 1) (.bin .add (.var 1) (.lst (.cons (.str "contradiction") (.cons (.str "function") (.cons (.str "value") (.cons (.str "graph") (.cons (.str "large") (.cons (.str "many") (.cons (.str "undo") (.cons (.str "text") .nil))))))))))) (.cons (.frz 1) (.cons (.ret (.tup (.cons (.str "raised") (.cons (.mth .index (.var 1) (.var 0)) .nil)))) .nil)))))⟩
def D_law_key : Df := ⟨1, 1, (.cons (.ret (.tup (.cons (.blt .len (.var 0)) (.cons (.var 0) .nil)))) .nil)⟩
def D_law_closure (f_law_key : Nat) : Df := ⟨1, 6, (.cons (.asg (.one 1) (.lst .nil)) (.cons (.frz 1) (.cons (.for (.one 2) (.iv (.var 0)) (.cons (.asg (.one 3) (.lst (.cons (.tup .nil) .nil))) (.cons (.frz 3) (.cons (.for (.one 4) (.iv (.var 2)) (.cons (.asg (.one 3) (.bin .add (.var 3) (.lc [5] (.one 5) (.iv (.var 3)) (.bl true) (.bin .add (.var 5) (.tup (.cons (.var 4) .nil)))))) (.cons (.frz 3) .nil))) (.cons (.asg (.one 1) (.bin .add (.var 1) (.slce (.var 3) (.int 1) .nil))) (.cons (.frz 1) .nil)))))) (.cons (.ret (.sortk f_law_key false (.blt .sortSet (.var 1)))) .nil))))⟩
def D_law_holds : Df := ⟨2, 3, (.cons (.ret (.cmp .eq (.lc [2] (.one 2) (.iv (.var 1)) (.cmp .notin (.var 2) (.var 0)) (.var 2)) (.lst .nil))) .nil)⟩
def D_law_facets (f_law_holds f_law_key : Nat) : Df := ⟨1, 4, (.cons (.asg (.one 1) (.lst .nil)) (.cons (.for (.one 2) (.iv (.sortk f_law_key false (.blt .sortSet (.var 0)))) (.cons (.ite (.cmp .eq (.lc [3] (.one 3) (.iv (.var 0)) (.and (.cmp .ne (.var 3) (.var 2)) (.call f_law_holds (.cons (.var 3) (.cons (.var 2) .nil)))) (.var 3)) (.lst .nil)) (.cons (.app 1 (.var 2)) .nil) .nil) .nil)) (.cons (.ret (.blt .tuple (.var 1))) .nil)))⟩
def D_law_simplex (f_law_draw : Nat) : Df := ⟨4, 7, (.cons (.asg (.one 4) (.bin .add (.int 1) (.call f_law_draw (.cons (.var 0) (.cons (.var 1) (.cons (.var 3) .nil)))))) (.cons (.frz 4) (.cons (.asg (.one 5) (.lc [6] (.one 6) (.ir (.cons (.var 4) .nil)) (.bl true) (.call f_law_draw (.cons (.var 0) (.cons (.var 1) (.cons (.var 2) .nil)))))) (.cons (.frz 5) (.cons (.ret (.blt .tuple (.blt .sortSet (.var 5)))) .nil)))))⟩
def D_law_complex (f_law_closure f_law_draw f_law_facets f_law_simplex : Nat) : Df := ⟨5, 8, (.cons (.asg (.one 5) (.lst (.cons (.call f_law_simplex (.cons (.var 0) (.cons (.var 1) (.cons (.var 2) (.cons (.var 3) .nil))))) .nil))) (.cons (.frz 5) (.cons (.for (.one 6) (.ir (.cons (.call f_law_draw (.cons (.var 0) (.cons (.var 1) (.cons (.int 9) .nil)))) .nil)) (.cons (.asg (.one 7) (.bin .add (.var 5) (.lst (.cons (.call f_law_simplex (.cons (.var 0) (.cons (.var 1) (.cons (.var 2) (.cons (.var 3) .nil))))) .nil)))) (.cons (.frz 7) (.cons (.ite (.cmp .le (.blt .len (.call f_law_closure (.cons (.var 7) .nil))) (.var 4)) (.cons (.asg (.one 5) (.var 7)) (.cons (.frz 5) .nil)) .nil) .nil)))) (.cons (.ret (.call f_law_facets (.cons (.var 5) .nil))) .nil))))⟩
def D_law_faces : Df := ⟨1, 3, (.cons (.ite (.cmp .eq (.blt .len (.var 0)) (.int 1)) (.cons (.ret (.lst .nil)) .nil) .nil) (.cons (.ret (.blt .sorted (.lc [1] (.one 1) (.iv (.var 0)) (.bl true) (.blt .tuple (.lc [2] (.one 2) (.iv (.var 0)) (.cmp .ne (.var 2) (.var 1)) (.var 2)))))) .nil))⟩
def D_law_call (f_cofaces : Nat) : Df := ⟨2, 2, (.cons (.ret (.call f_cofaces (.cons (.idx (.var 1) (.int 0)) (.cons (.idx (.var 1) (.int 1)) .nil)))) .nil)⟩
def D_law_parts : Df := ⟨1, 7, (.cons (.asg (.one 1) (.lst .nil)) (.cons (.frz 1) (.cons (.for (.one 2) (.iv (.var 0)) (.cons (.asg (.one 3) (.lc [5] (.one 5) (.iv (.var 1)) (.cmp .ne (.lc [6] (.one 6) (.iv (.var 2)) (.cmp .isin (.var 6) (.var 5)) (.var 6)) (.lst .nil)) (.var 5))) (.cons (.frz 3) (.cons (.asg (.one 4) (.blt .list (.var 2))) (.cons (.frz 4) (.cons (.for (.one 5) (.iv (.var 3)) (.cons (.asg (.one 4) (.bin .add (.var 4) (.var 5))) (.cons (.frz 4) .nil))) (.cons (.asg (.one 1) (.bin .add (.lc [5] (.one 5) (.iv (.var 1)) (.cmp .notin (.var 5) (.var 3)) (.var 5)) (.lst (.cons (.blt .sortSet (.var 4)) .nil)))) (.cons (.frz 1) .nil)))))))) (.cons (.ret (.blt .tuple (.blt .sorted (.lc [5] (.one 5) (.iv (.var 1)) (.bl true) (.blt .tuple (.var 5)))))) .nil))))⟩
end R
end
section
set_option Elab.async false
set_option linter.all false
/-! MB: data of lists of ints, of lists of these; the evaluator's loops over encoded lists. -/
namespace R
open PySem
/-- a is in l -/
def memB {α : Type} [DecidableEq α] (a : α) (l : List α) : Bool := decide (a ∈ l)
theorem memB_iff {α : Type} [DecidableEq α] {a : α} {l : List α} : memB a l = true ↔ a ∈ l := by simp [memB]
theorem memB_no {α : Type} [DecidableEq α] {a : α} {l : List α} : memB a l = false ↔ a ∉ l := by simp [memB]
/-- e tells things apart as data, to depth n -/
class Enc {α : Type} [DecidableEq α] (e : α → D) (n : outParam Nat) : Prop where
  eq : ∀ a b, eqD (e a) (e b) = decide (a = b)
  shp : ∀ k a, n ≤ k → sh k (e a) = true
section
variable {α : Type} [DecidableEq α] {e : α → D} {n : Nat}
theorem eqDs_map [Enc e n] : ∀ a b : List α, eqDs (a.map e) (b.map e) = decide (a = b)
  | [], [] => by simp [eqDs]
  | [], b :: bs => by simp [eqDs]
  | a :: as, [] => by simp [eqDs]
  | a :: as, b :: bs => by
    simp only [List.map_cons, eqDs, Enc.eq, eqDs_map as bs, List.cons.injEq]
    by_cases h : a = b <;> by_cases h2 : as = bs <;> simp [h, h2]
theorem sh_allM [Enc e n] {k : Nat} (h : n ≤ k) (l : List α) : (l.map e).all (sh k) = true := by
  rw [List.all_map, List.all_eq_true]
  exact fun a _ => Enc.shp k a h
instance encInt : Enc D.int 0 := ⟨fun a b => by rw [eqD]; by_cases h : a = b <;> simp [h], fun k a _ => by cases k <;> rfl⟩
instance encTup [Enc e n] : Enc (fun l : List α => D.tup (l.map e)) (n + 1) := ⟨fun a b => by rw [eqD]; exact eqDs_map a b, fun k a h => by
  obtain ⟨j, rfl⟩ : ∃ j, k = j + 1 := ⟨k - 1, by omega⟩
  rw [sh]; exact sh_allM (by omega) a⟩
instance encLst [Enc e n] : Enc (fun l : List α => D.lst (l.map e)) (n + 1) := ⟨fun a b => by rw [eqD]; exact eqDs_map a b, fun k a h => by
  obtain ⟨j, rfl⟩ : ∃ j, k = j + 1 := ⟨k - 1, by omega⟩
  rw [sh]; exact sh_allM (by omega) a⟩
instance encSx : Enc tupI 1 := encTup (e := D.int)
theorem inD_map [Enc e n] (a : α) (l : List α) : inD (e a) (l.map e) = memB a l := by
  unfold inD memB
  rw [List.any_map]
  induction l with
  | nil => simp
  | cons b l ih =>
    rw [List.any_cons, ih]
    simp only [Function.comp, Enc.eq, List.mem_cons]
    by_cases h : b = a
    · simp [h]
    · have h' : ¬ a = b := fun z => h z.symm
      simp [h, h']
end
theorem encD_ne [DecidableEq α] {e : α → D} {n : Nat} [Enc e n] (a b : α) : (eqD (e a) (e b)) = decide (a = b) := Enc.eq a b
def tupS (l : List (List Int)) : D := .tup (l.map tupI)
def lstS (l : List (List Int)) : D := .lst (l.map tupI)
def lstI (l : List Int) : D := .lst (l.map .int)
instance : Enc tupS 2 := encTup (e := tupI)
instance : Enc lstS 2 := encLst (e := tupI)
instance : Enc lstI 1 := encLst (e := D.int)
theorem ky_int (k : Nat) (i : Int) : ky k (.int i) = true := by cases k <;> rfl
theorem isKey_tupI (s : (List Int)) : isKey (tupI s) = true := by
  unfold tupI isKey
  simp [ky, ky_int]
theorem isKeys (l : List (List Int)) : (l.map tupI).all isKey = true := by
  rw [List.all_map, List.all_eq_true]
  exact fun a _ => isKey_tupI a
/-! ### orders of data -/
theorem ltDs_ints : ∀ a b : (List Int), ltDs (a.map D.int) (b.map D.int) = sLt a b
  | [], [] => rfl
  | [], _ :: _ => rfl
  | _ :: _, [] => rfl
  | a :: as, b :: bs => by
    simp only [List.map_cons, ltDs, eqD, ltD, lxLt, ltDs_ints as bs, iLt]
    by_cases h : a = b <;> simp [h]
theorem ltD_tupI (a b : (List Int)) : ltD (tupI a) (tupI b) = sLt a b := by
  unfold tupI
  rw [ltD]
  exact ltDs_ints a b
theorem alks_ints : ∀ a b : (List Int), alks (a.map D.int) (b.map D.int) = true
  | [], [] => rfl
  | [], _ :: _ => rfl
  | _ :: _, [] => rfl
  | a :: as, b :: bs => by simp only [List.map_cons, alks, alk, alks_ints as bs, Bool.and_self]
theorem alk_tupI (a b : (List Int)) : alk (tupI a) (tupI b) = true := by unfold tupI; rw [alk]; exact alks_ints a b
/-- a simplex' key -/
def keyD (s : (List Int)) : D := .tup [.int s.length, tupI s]
theorem ltD_keyD (a b : (List Int)) : ltD (keyD a) (keyD b) = kLt a b := by
  unfold keyD
  simp only [ltD, ltDs, eqD, Enc.eq, ltD_tupI, lenLt]
  by_cases h : a.length = b.length
  · by_cases h2 : a = b
    · subst h2; simp [so_sLt.irr]
    · simp [h, h2]
  · have h3 : ¬ ((a.length : Int) = b.length) := by omega
    simp [h, h3]
theorem alk_keyD (a b : (List Int)) : alk (keyD a) (keyD b) = true := by simp [keyD, alk, alks, alk_tupI]
theorem sh_keyD {k : Nat} (h : 2 ≤ k) (a : (List Int)) : sh k (keyD a) = true := by
  obtain ⟨j, rfl⟩ : ∃ j, k = j + 2 := ⟨k - 2, by omega⟩
  simp [keyD, sh, Enc.shp (e := tupI) (j + 1) a (by omega)]
instance : Enc keyD 2 := ⟨fun a b => by
  unfold keyD
  simp only [eqD, eqDs, Enc.eq]
  by_cases h : a = b
  · simp [h]
  · simp [h], fun k a h => sh_keyD h a⟩
/-! ### sorting -/
section
variable {α : Type}
theorem sortBy_map {kd ed : α → D} {lt : α → α → Bool} {l : List α} (h : ∀ a ∈ l, ∀ b ∈ l, ltD (kd a) (kd b) = lt a b) (hs : sortable (l.map kd) = true) (hz : l.length ≤ 16777216) : sortBy (l.map kd) (l.map ed) = some ((srt lt l).map ed) := by
  unfold sortBy
  rw [if_pos (by simp [hs, szOk, hz])]
  have e : (l.map kd).zip (l.map ed) = l.map fun a => (kd a, ed a) := by rw [List.zip_map']
  rw [e, ← List.map_mergeSort (r := fun a b => !lt b a) (f := fun a => (kd a, ed a)) (fun a ha b hb => by
    show (!lt b a) = leK (kd a, ed a) (kd b, ed b)
    unfold leK
    rw [h b hb a ha]), List.map_map]
  rfl
theorem sortable_map {kd : α → D} {l : List α} (h1 : ∀ a ∈ l, sh 8 (kd a) = true) (h2 : ∀ a ∈ l, ∀ b ∈ l, alk (kd a) (kd b) = true) (h3 : (∀ a ∈ l, isTupC (kd a) = true) ∨ ∀ a ∈ l, isPlainC (kd a) = true) : sortable (l.map kd) = true := by
  unfold sortable
  simp only [List.all_map, Bool.and_eq_true, Bool.or_eq_true, List.all_eq_true, Function.comp]
  exact ⟨⟨h1, h2⟩, h3⟩
end
theorem isTupC_tupI {s : (List Int)} (h : s ≠ []) : isTupC (tupI s) = true := by cases s with
  | nil => exact absurd rfl h
  | cons x s => rfl
/-- sorted by the simplex key -/
theorem sort_keys (l : List (List Int)) (hz : l.length ≤ 16777216) : sortBy (l.map keyD) (l.map tupI) = some ((srt kLt l).map tupI) :=
  sortBy_map (fun a _ b _ => ltD_keyD a b) (sortable_map (fun a _ => sh_keyD (by decide) a) (fun a _ b _ => alk_keyD a b) (.inl fun a _ => rfl)) hz
theorem sort_tups (l : List (List Int)) (hn : ∀ s ∈ l, s ≠ []) (hz : l.length ≤ 16777216) : sortBy (l.map tupI) (l.map tupI) = some ((srt sLt l).map tupI) :=
  sortBy_map (fun a _ b _ => ltD_tupI a b) (sortable_map (fun a _ => Enc.shp 8 a (by decide)) (fun a _ b _ => alk_tupI a b) (.inl fun a h => isTupC_tupI (hn a h))) hz
theorem sort_ints (l : List Int) (hz : l.length ≤ 16777216) : sortBy (l.map D.int) (l.map D.int) = some ((srt iLt l).map D.int) :=
  sortBy_map (fun a _ b _ => by simp [ltD, iLt]) (sortable_map (fun a _ => rfl) (fun a _ b _ => rfl) (.inr fun a _ => rfl)) hz
theorem intsD_map : ∀ l : List Int, intsD (l.map D.int) = some l
  | [] => rfl
  | a :: l => by simp [intsD, intsD_map l]
theorem tupsI_map : ∀ l : List (List Int), tupsI (l.map tupI) = some l
  | [] => rfl
  | a :: l => by
    have h := tupsI_map l
    simp only [List.map_cons, tupsI, tupI, intsD_map] at *
    rw [h]
theorem setD_ints (l : List Int) (h : l.length ≤ 1000) : setD (l.map D.int) = some ((dd l).map D.int) := by simp [setD, intsD_map, h]
theorem setD_tups (l : List (List Int)) (h : (dd l).length < 63) : setD (l.map tupI) = some ((dd l).map tupI) := by
  cases l with
  | nil => simp [setD, intsD, dd]
  | cons a l =>
    have : intsD ((a :: l).map tupI) = none := by simp [tupI, intsD]
    unfold setD
    rw [this, tupsI_map]
    simp [h]
theorem boolsD_map : ∀ l : List Bool, boolsD (l.map D.bl) = some l
  | [] => rfl
  | a :: l => by simp [boolsD, boolsD_map l]
theorem boolsD_fn {α : Type} (f : α → Bool) : ∀ l : List α, boolsD (l.map fun a => D.bl (f a)) = some (l.map f)
  | [] => rfl
  | a :: l => by simp [boolsD, boolsD_fn f l]
theorem intsD_fn {α : Type} (f : α → Int) : ∀ l : List α, intsD (l.map fun a => D.int (f a)) = some (l.map f)
  | [] => rfl
  | a :: l => by simp [intsD, intsD_fn f l]
/-! ### loops over encoded lists -/
section
variable {α β : Type} {w : Wd}
theorem lc_fm {f : D → Wd → M (Option D)} {e : α → D} {g : α → Option D} : ∀ {l : List α}, (∀ a ∈ l, f (e a) w = some (.ok (g a) w)) → lcLoop f (l.map e) w = some (.ok (l.filterMap g) w)
  | [], _ => rfl
  | a :: l, h => by
    simp only [List.map_cons, lcLoop, h a List.mem_cons_self, lc_fm fun b hb => h b (List.mem_cons_of_mem _ hb), ret, List.filterMap_cons]
    cases g a <;> rfl
/-- [u for a in l] -/
theorem lc_map {f : D → Wd → M (Option D)} {e : α → D} {u : α → D} {l : List α} (h : ∀ a ∈ l, f (e a) w = some (.ok (some (u a)) w)) : lcLoop f (l.map e) w = some (.ok (l.map u) w) := by
  rw [lc_fm h]
  congr 2
  induction l with
  | nil => rfl
  | cons a l ih => simp [ih fun b hb => h b (List.mem_cons_of_mem _ hb)]
/-- [a for a in l if p a] -/
theorem lc_filter {f : D → Wd → M (Option D)} {e : α → D} {p : α → Bool} {u : α → D} {l : List α} (h : ∀ a ∈ l, f (e a) w = some (.ok (if p a then some (u a) else none) w)) : lcLoop f (l.map e) w = some (.ok ((l.filter p).map u) w) := by
  rw [lc_fm h]
  congr 2
  induction l with
  | nil => rfl
  | cons a l ih =>
    have := ih fun b hb => h b (List.mem_cons_of_mem _ hb)
    cases hp : p a <;> simp [hp, this]
theorem lc2_map {f : D → Wd → M (List D)} {e : α → D} {g : α → List D} : ∀ {l : List α}, (∀ a ∈ l, f (e a) w = some (.ok (g a) w)) → lcLoop2 f (l.map e) w = some (.ok (l.flatMap g) w)
  | [], _ => rfl
  | a :: l, h => by
    simp only [List.map_cons, lcLoop2, h a List.mem_cons_self, lc2_map fun b hb => h b (List.mem_cons_of_mem _ hb), ret, List.flatMap_cons]
/-- a for whose turns leave the world as it is: R tells the slots by what was gathered -/
theorem for_rel {tg : Tg} {body : En → Wd → Option Out} {e : α → D} {step : β → α → β} (R : En → β → Prop) : ∀ {l : List α} {env : En} {b : β}, R env b → (∀ env b a, a ∈ l → R env b → ∃ env1 env2, bindTg tg (e a) env = some env1 ∧ body env1 w = some (.next env2 w) ∧ R env2 (step b a)) →
    ∃ env', forLoop tg body (l.map e) env w = some (.next env' w) ∧ R env' (l.foldl step b)
  | [], env, b, h, _ => ⟨env, rfl, h⟩
  | a :: l, env, b, h, k => by
    obtain ⟨env1, env2, h1, h2, h3⟩ := k env b a List.mem_cons_self h
    obtain ⟨env', h4, h5⟩ := for_rel (step := step) R (l := l) h3 fun env b c hc => k env b c (List.mem_cons_of_mem _ hc)
    exact ⟨env', by simp only [List.map_cons, forLoop, h1, h2]; exact h4, h5⟩
/-- .. R by the part that was walked -/
theorem for_pre {tg : Tg} {body : En → Wd → Option Out} {e : α → D} {l : List α} (R : List α → En → Prop) {env : En} (h0 : R [] env)
    (hs : ∀ pre a post env, l = pre ++ a :: post → R pre env → ∃ env1 env2, bindTg tg (e a) env = some env1 ∧ body env1 w = some (.next env2 w) ∧ R (pre ++ [a]) env2) :
    ∃ env', forLoop tg body (l.map e) env w = some (.next env' w) ∧ R l env' := by
  have gen : ∀ (post pre : List α) (env : En), l = pre ++ post → R pre env → ∃ env', forLoop tg body (post.map e) env w = some (.next env' w) ∧ R l env' := by
    intro post
    induction post with
    | nil => intro pre env h r; rw [List.append_nil] at h; subst h; exact ⟨env, rfl, r⟩
    | cons a post ih =>
      intro pre env h r
      obtain ⟨env1, env2, h1, h2, h3⟩ := hs pre a post env h r
      obtain ⟨env', h4, h5⟩ := ih (pre ++ [a]) env2 (by rw [h]; simp) h3
      exact ⟨env', by simp only [List.map_cons, forLoop, h1, h2]; exact h4, h5⟩
  exact gen l [] env rfl h0
end
theorem cut_from (k : Nat) (xs : List D) : cutD xs (some (k : Int)) none = xs.drop k := by
  unfold cutD
  rw [HT.sIx_nat, HT.sIx_none]
  by_cases h : k ≤ xs.length
  · rw [Nat.min_eq_left h, List.take_of_length_le (by simp)]
  · rw [Nat.min_eq_right (by omega)]
    simp [List.drop_of_length_le (show xs.length ≤ k by omega)]
theorem cut_to (k : Nat) (xs : List D) : cutD xs none (some (k : Int)) = xs.take k := by
  unfold cutD
  rw [HT.sIx_nat, HT.sIx_none, List.drop_zero, Nat.sub_zero]
  by_cases h : k ≤ xs.length
  · rw [Nat.min_eq_left h]
  · rw [Nat.min_eq_right (by omega), List.take_of_length_le (Nat.le_refl _), List.take_of_length_le (by omega)]
theorem cut_from1 (xs : List D) : cutD xs (some 1) none = xs.tail := by rw [← List.drop_one]; exact cut_from 1 xs
theorem zip2_map {α β : Type} {e : α → D} {e' : β → D} (l : List α) (m : List β) : zip2 (l.map e) (m.map e') = (l.zip m).map fun p => .tup [e p.1, e' p.2] := by
  unfold zip2
  rw [List.zip_map, List.map_map]
  rfl
theorem nosl_val {r : D} {w : Wd} : nosl (some (.ok (.val, r) w)) = some (.ok (.val, r) w) := rfl
theorem nosl_own {r : D} {w : Wd} : nosl (some (.ok (.own, r) w)) = some (.ok (.own, r) w) := rfl
theorem nosl_exc {c : Nat} {p : List D} {w : Wd} : nosl (some (.exc c p w)) = some (.exc c p w) := rfl
theorem trim_same (w : Wd) (ds : List D) : trim w w ds = w := by simp [trim]
end R
end
section
set_option Elab.async false
set_option linter.all false
/-! ME: the evaluator by rules, one for each construct. -/
namespace R
open PySem
/-- e gives d (told as k), the world then w' -/
structure E (T : Tab) (e : CE) (env : En) (w : Wd) (k : Kd) (d : D) (w' : Wd) : Prop where
  eq : evE T e env w = some (.ok (k, d) w')
  nc : k ≠ .cel
abbrev EL (T : Tab) (l : CE) (env : En) (w : Wd) (xs : List (Kd × D)) (w' : Wd) : Prop := evL T l env w = some (.ok xs w')
abbrev EI (T : Tab) (l : CE) (env : En) (w : Wd) (xs : List D) (w' : Wd) : Prop := evI T l env w = some (.ok xs w')
abbrev ES (T : Tab) (s : CS) (env : En) (w : Wd) (o : Out) : Prop := evS T s env w = some o
/-- an expression that raises -/
abbrev EX (T : Tab) (e : CE) (env : En) (w : Wd) (c : Nat) (p : List D) (w' : Wd) : Prop := evE T e env w = some (.exc c p w')
/-- told as what stays -/
def kept (k : Kd) : Bool := match k with | .val | .own => true | _ => false
section
variable {T : Tab} {env env1 : En} {w w1 w2 w3 : Wd} {a b c e : CE} {k k1 k2 : Kd} {x y z d : D} {p q : Bool}
theorem bnd1_ok {f : Kd × D → Wd → M (Kd × D)} {m : M (Kd × D)} (h : m = some (.ok (k, x) w1)) (hk : k ≠ .cel) : bnd1 m f = f (k, x) w1 := by
  subst h; cases k <;> first | rfl | exact absurd rfl hk
theorem bnd1_okL {f : Kd × D → Wd → M (List (Kd × D))} {m : M (Kd × D)} (h : m = some (.ok (k, x) w1)) (hk : k ≠ .cel) : bnd1 m f = f (k, x) w1 := by
  subst h; cases k <;> first | rfl | exact absurd rfl hk
theorem keepOk_of (h : kept k = true) : keepOk (k, x) = some x := by cases k <;> first | rfl | cases h
theorem nc_of (h : kept k = true) : k ≠ .cel := by cases k <;> first | (intro z; cases z; done) | cases h
theorem E.var {i : Nat} (h : env[i]? = some (.val d)) : E T (.var i) env w .val d w := ⟨by rw [evE, h]; rfl, nofun⟩
theorem E.ovar {i : Nat} (h : env[i]? = some (.own d)) : E T (.var i) env w (.slot i) d w := ⟨by rw [evE, h]; rfl, nofun⟩
theorem E.int {i : Int} : E T (.int i) env w .val (.int i) w := ⟨rfl, nofun⟩
theorem E.str {i : Str} : E T (.str i) env w .val (.str i) w := ⟨rfl, nofun⟩
theorem E.bl {i : Bool} : E T (.bl i) env w .val (.bl i) w := ⟨rfl, nofun⟩
theorem E.non : E T .non env w .val .non w := ⟨rfl, nofun⟩
theorem E.fn {i : Nat} : E T (.fn i) env w .val (.fn i) w := ⟨rfl, nofun⟩
theorem E.gl {g : Nat} (h : T.gv g = some d) : E T (.gl g) env w .val d w := ⟨by rw [evE, h]; rfl, nofun⟩
theorem E.neg {i : Int} (h : E T a env w k (.int i) w1) : E T (.neg a) env w .val (.int (-i)) w1 := ⟨by rw [evE, h.eq]; rfl, nofun⟩
theorem binD_nc {o : BOp} {r : Kd × D} (h : binD o x y = some r) : r.1 ≠ .cel := by
  unfold binD at h
  split at h <;> first | (cases h; exact nofun) | (split at h <;> first | (cases h; exact nofun) | cases h) | cases h
theorem E.bin {o : BOp} (ha : E T a env w k x w1) (hb : E T b env w1 k1 y w2) (h : binD o x y = some (k2, z)) : E T (.bin o a b) env w k2 z w2 :=
  ⟨by rw [evE, bnd1_ok ha.eq ha.nc, hb.eq]; show lift (binD o x y) w2 = _; rw [h]; rfl, binD_nc h⟩
theorem E.cmp {o : COp} (ha : E T a env w k x w1) (hb : E T b env w1 k1 y w2) (h : cmpD o x y = some p) : E T (.cmp o a b) env w .val (.bl p) w2 :=
  ⟨by rw [evE, bnd1_ok ha.eq ha.nc, hb.eq]; show lift ((cmpD o x y).map _) w2 = _; rw [h]; rfl, nofun⟩
/-- a chain whose parts leave the world as it is -/
theorem E.chain {o o' : COp} (ha : E T a env w k x w) (hb : E T b env w k1 y w) (h : cmpD o x y = some p) (hc : p = true → E T c env w k2 z w ∧ cmpD o' y z = some q) : E T (.chain o o' a b c) env w .val (.bl (p && q)) w := by
  refine ⟨?_, nofun⟩
  rw [evE, bnd1_ok ha.eq ha.nc, bnd1_ok hb.eq hb.nc]
  dsimp only
  rw [h]
  cases p with
  | false => rfl
  | true =>
    obtain ⟨h1, h2⟩ := hc rfl
    dsimp only
    rw [h1.eq]
    show lift ((cmpD o' y z).map _) w = _
    rw [h2]; rfl
theorem E.and (ha : E T a env w k (.bl p) w1) (hb : p = true → E T b env w1 .val (.bl q) w1) : E T (.and a b) env w .val (.bl (p && q)) w1 := by
  refine ⟨?_, nofun⟩
  rw [evE, ha.eq]
  cases p with
  | false => rfl
  | true => exact (hb rfl).eq
theorem E.or (ha : E T a env w k (.bl p) w1) (hb : p = false → E T b env w1 .val (.bl q) w1) : E T (.or a b) env w .val (.bl (p || q)) w1 := by
  refine ⟨?_, nofun⟩
  rw [evE, ha.eq]
  cases p with
  | true => rfl
  | false => exact (hb rfl).eq
theorem E.not (ha : E T a env w k (.bl p) w1) : E T (.not a) env w .val (.bl (!p)) w1 := ⟨by rw [evE, ha.eq]; rfl, nofun⟩
theorem E.ite (hc : E T c env w k (.bl p) w1) (ha : p = true → E T a env w1 k1 x w2) (hb : p = false → E T b env w1 k1 y w2) : E T (.ite c a b) env w k1 (if p then x else y) w2 := by
  cases p with
  | true => exact ⟨by rw [evE, hc.eq]; exact (ha rfl).eq, (ha rfl).nc⟩
  | false => exact ⟨by rw [evE, hc.eq]; exact (hb rfl).eq, (hb rfl).nc⟩
/-! lists -/
theorem EL.nil : EL T .nil env w [] w := rfl
theorem EL.cons {xs : List (Kd × D)} (ha : E T a env w k x w1) (hb : EL T b env w1 xs w2) : EL T (.cons a b) env w ((k, x) :: xs) w2 := by
  show evL T (.cons a b) env w = _
  rw [evL, bnd1_okL ha.eq ha.nc]
  show bnd (evL T b env w1) _ = _
  rw [show evL T b env w1 = _ from hb]; rfl
theorem E.tup {xs : List (Kd × D)} {ds : List D} (h : EL T a env w xs w1) (hk : keepAll xs = some ds) : E T (.tup a) env w .val (.tup ds) w1 :=
  ⟨by rw [evE, show evL T a env w = _ from h]; show lift ((keepAll xs).map _) w1 = _; rw [hk]; rfl, nofun⟩
theorem E.lst {xs : List (Kd × D)} {ds : List D} (h : EL T a env w xs w1) (hk : keepAll xs = some ds) : E T (.lst a) env w .own (.lst ds) w1 :=
  ⟨by rw [evE, show evL T a env w = _ from h]; show lift ((keepAll xs).map _) w1 = _; rw [hk]; rfl, nofun⟩
theorem E.dic0 : E T (.dic .nil) env w .own (.dic [] []) w := ⟨rfl, nofun⟩
theorem E.idx (ha : E T a env w k x w1) (hb : E T b env w1 k1 y w2) (h : idxD x y = some z) : E T (.idx a b) env w .val z w2 :=
  ⟨by rw [evE, bnd1_ok ha.eq ha.nc, hb.eq]; show lift ((idxD x y).map _) w2 = _; rw [h]; rfl, nofun⟩
theorem E.rix {n : Nat} {cd : D} (ha : E T a env w .val (.cell n) w1) (hb : E T b env w1 k1 y w2) (hc : w2[n]? = some cd) (h : idxD cd y = some z) : E T (.rix a b) env w .val z w2 := by
  refine ⟨?_, nofun⟩
  rw [evE, bnd1_ok ha.eq ha.nc, hb.eq]
  simp only [bnd, hc, h, lift, Option.map_some]
theorem slcD_nc {lo hi : Option Int} {r : Kd × D} (h : slcD x lo hi = some r) : r.1 ≠ .cel := by
  cases x <;> simp only [slcD] at h <;> first | (cases h; exact nofun) | cases h
theorem E.slce_from {i : Int} (ha : E T a env w k x w1) (hn : isNilC b = false) (hb : E T b env w1 k1 (.int i) w2) (h : slcD x (some i) none = some (k2, z)) : E T (.slce a b .nil) env w k2 z w2 := by
  refine ⟨?_, slcD_nc h⟩
  rw [evE, bnd1_ok ha.eq ha.nc]
  rw [hn, show isNilC .nil = true from rfl]
  simp only [Bool.false_eq_true, if_false, if_true, hb.eq, bnd, partD, ret, h, lift]
theorem E.slce_to {i : Int} (ha : E T a env w k x w1) (hn : isNilC b = false) (hb : E T b env w1 k1 (.int i) w2) (h : slcD x none (some i) = some (k2, z)) : E T (.slce a .nil b) env w k2 z w2 := by
  refine ⟨?_, slcD_nc h⟩
  rw [evE, bnd1_ok ha.eq ha.nc]
  rw [hn, show isNilC .nil = true from rfl]
  simp only [Bool.false_eq_true, if_false, if_true, hb.eq, bnd, partD, ret, h, lift]
theorem stpD_nc {n : Nat} {r : Kd × D} (h : stpD n x = some r) : r.1 ≠ .cel := by
  unfold stpD at h
  split at h <;> first | (cases h; exact nofun) | cases h
theorem E.stp {n : Nat} (ha : E T a env w k x w1) (h : stpD n x = some (k2, z)) : E T (.rev2 a n) env w k2 z w1 :=
  ⟨by rw [evE, ha.eq]; show lift (stpD n x) w1 = _; rw [h]; rfl, stpD_nc h⟩
theorem E.call {f : Nat} {xs : List (Kd × D)} (h : EL T a env w xs w1) (hs : xs.any isSlot = false) (hc : T.call f (xs.map (·.2)) w1 = some (.ok (k, x) w2)) (hk : kept k = true) : E T (.call f a) env w k x w2 := by
  refine ⟨?_, nc_of hk⟩
  rw [evE, show evL T a env w = _ from h]
  show callR T f xs w1 = _
  unfold callR
  rw [hs, if_neg (by decide), hc]
  cases k <;> first | rfl | cases hk
theorem EX.call {f : Nat} {xs : List (Kd × D)} {cl : Nat} {pl : List D} (h : EL T a env w xs w1) (hs : xs.any isSlot = false) (hc : T.call f (xs.map (·.2)) w1 = some (.exc cl pl w2)) : EX T (.call f a) env w cl pl w2 := by
  show evE T (.call f a) env w = _
  rw [evE, show evL T a env w = _ from h]
  show callR T f xs w1 = _
  unfold callR
  rw [hs, if_neg (by decide), hc]
  rfl
theorem bltD_nc {o : Blt} {r : Kd × D} (h : bltD o x = some r) : kept r.1 = true := by
  unfold bltD at h
  split at h <;> first
    | (cases h; rfl)
    | (split at h <;> first | (cases h; rfl) | cases h)
    | (rw [Option.map_eq_some_iff] at h; obtain ⟨_, _, rfl⟩ := h; rfl)
    | (rw [Option.bind_eq_some_iff] at h; obtain ⟨_, _, h⟩ := h; rw [Option.map_eq_some_iff] at h; obtain ⟨_, _, rfl⟩ := h; rfl)
    | cases h
theorem E.blt {o : Blt} (ha : E T a env w k x w1) (h : bltD o x = some (k2, z)) : E T (.blt o a) env w k2 z w1 :=
  ⟨by rw [evE, ha.eq]; show lift (bltD o x) w1 = _; rw [h]; rfl, nc_of (bltD_nc h)⟩
theorem E.mth {m : Mt} {xs : List D} (ha : E T a env w k (.lst xs) w1) (hb : E T b env w1 k1 y w2) (h : mthD m (.lst xs) y = some z) : E T (.mth m a b) env w .val z w2 := by
  refine ⟨?_, nofun⟩
  rw [evE, bnd1_ok ha.eq ha.nc]
  simp only [isLstD, if_true, hb.eq, bnd, h, lift, Option.map_some]
theorem E.isx {cl n : Nat} (ha : E T a env w k (.exc n []) w1) (h : T.sub n cl = some p) : E T (.isx a cl) env w .val (.bl p) w1 :=
  ⟨by rw [evE, ha.eq]; show lift ((T.sub n cl).map _) w1 = _; rw [h]; rfl, nofun⟩
theorem E.rep {ds : List D} {i : Int} (ha : E T a env w .own (.lst ds) w1) (hb : E T b env w1 k1 (.int i) w2) (h : 0 ≤ i ∧ i ≤ 1000 ∧ ds.length ≤ 1000) : E T (.rep a b) env w .own (.lst (List.replicate i.toNat ds).flatten) w2 := by
  refine ⟨?_, nofun⟩
  rw [evE, bnd1_ok ha.eq ha.nc, hb.eq]
  have : repD (.own, .lst ds) (.int i) = some (.own, .lst (List.replicate i.toNat ds).flatten) := by
    show (if 0 ≤ i ∧ i ≤ 1000 ∧ ds.length ≤ 1000 then _ else _) = _
    rw [if_pos h]
  show lift (repD (.own, .lst ds) (.int i)) w2 = _
  rw [this]; rfl
/-! keys -/
theorem keysLoop_map {α : Type} {f : D → Option D} {e u : α → D} : ∀ {l : List α}, (∀ a ∈ l, f (e a) = some (u a)) → keysLoop f (l.map e) = some (l.map u)
  | [], _ => rfl
  | a :: l, h => by simp only [List.map_cons, keysLoop, h a List.mem_cons_self, keysLoop_map fun b hb => h b (List.mem_cons_of_mem _ hb)]
theorem keyOne_of {f : Nat} {r : D} (hs : sh 8 d = true) (h : T.call f [d] [] = some (.ok (.val, r) [])) : keyOne T f d = some r := by
  unfold keyOne
  rw [hs, if_pos rfl, h]
theorem E.sortk {α : Type} {f : Nat} {keys : Bool} {e' kd : α → D} {l : List α} {ys : List D} (ha : E T a env w k x w1) (hx : srcD keys x = some (l.map e')) (hs : ∀ a ∈ l, sh 8 (e' a) = true) (hk : ∀ a ∈ l, T.call f [e' a] [] = some (.ok (.val, kd a) [])) (h : sortBy (l.map kd) (l.map e') = some ys) :
    E T (.sortk f keys a) env w .own (.lst ys) w1 := by
  refine ⟨?_, nofun⟩
  rw [evE, ha.eq]
  show (match srcD keys x with | some xs => _ | none => none) = _
  rw [hx]
  dsimp only
  rw [keysLoop_map (u := kd) fun a ha => keyOne_of (hs a ha) (hk a ha)]
  dsimp only
  rw [h]; rfl
/-! what is walked -/
theorem EI.iv {xs : List D} (ha : E T a env w k x w1) (ho : okI a (k, x) = true) (h : itemsD x = some xs) : EI T (.iv a) env w xs w1 := by
  show evI T (.iv a) env w = _
  rw [evI, ha.eq]
  show (if okI a (k, x) then lift (itemsD x) w1 else none) = _
  rw [if_pos ho, h]; rfl
theorem EI.ir {xs : List (Kd × D)} {ys : List D} (h : EL T a env w xs w1) (hr : rangeD xs = some ys) : EI T (.ir a) env w ys w1 := by
  show evI T (.ir a) env w = _
  rw [evI, show evL T a env w = _ from h]
  show lift (rangeD xs) w1 = _
  rw [hr]; rfl
theorem EI.iz {xs : List (Kd × D)} {ys : List D} (h : EL T a env w xs w1) (hr : zipD xs = some ys) : EI T (.iz a) env w ys w1 := by
  show evI T (.iz a) env w = _
  rw [evI, show evL T a env w = _ from h]
  show lift (zipD xs) w1 = _
  rw [hr]; rfl
theorem EI.ie {xs : List (Kd × D)} {ys : List D} (h : EL T a env w xs w1) (hr : enumD xs = some ys) : EI T (.ie a) env w ys w1 := by
  show evI T (.ie a) env w = _
  rw [evI, show evL T a env w = _ from h]
  show lift (enumD xs) w1 = _
  rw [hr]; rfl
/-! comprehensions -/
/-- one turn: the item is bound; kept if c; then told by e -/
structure Turn (T : Tab) (vs : List Nat) (tg : Tg) (c e : CE) (env : En) (w : Wd) (x : D) (p : Bool) (u : D) : Prop where
  ex : ∃ env1 kc k, bindTg tg x (wipeE env vs) = some env1 ∧ E T c env1 w kc (.bl p) w ∧ (p = true → E T e env1 w k u w ∧ kept k = true)
theorem Turn.mk' {vs : List Nat} {tg : Tg} {kc : Kd} (hb : bindTg tg x (wipeE env vs) = some env1) (hc : E T c env1 w kc (.bl p) w) (he : p = true → E T e env1 w k y w ∧ kept k = true) : Turn T vs tg c e env w x p y := ⟨env1, kc, k, hb, hc, he⟩
theorem Turn.all {vs : List Nat} {tg : Tg} (hb : bindTg tg x (wipeE env vs) = some env1) (he : E T e env1 w k y w) (hk : kept k = true) : Turn T vs tg (.bl true) e env w x true y := ⟨env1, .val, k, hb, E.bl, fun _ => ⟨he, hk⟩⟩
theorem Turn.run {vs : List Nat} {tg : Tg} {u : D} (h : Turn T vs tg c e env w x p u) : (match bindTg tg x (wipeE env vs) with
      | some env' => bnd (evE T c env' w) fun b w3 => match b with
        | (_, .bl true) => bnd (evE T e env' w3) fun y w4 => lift ((keepOk y).map some) w4
        | (_, .bl false) => ret none w3
        | _ => none
      | none => none) = some (.ok (if p then some u else none) w) := by
  obtain ⟨env1, kc, k, hb, hc, he⟩ := h.ex
  rw [hb]
  dsimp only
  rw [hc.eq]
  cases p with
  | false => rfl
  | true =>
    obtain ⟨h1, h2⟩ := he rfl
    dsimp only [bnd]
    rw [h1.eq]
    dsimp only [bnd]
    rw [keepOk_of h2]; rfl
theorem E.lc {α : Type} {vs : List Nat} {tg : Tg} {it : CE} {e' : α → D} {l : List α} {pr : α → Bool} {u : α → D} (hi : EI T it env w (l.map e') w1) (no : noOwn env vs = true) (ht : ∀ a ∈ l, Turn T vs tg c e env w1 (e' a) (pr a) (u a)) :
    E T (.lc vs tg it c e) env w .own (.lst ((l.filter pr).map u)) w1 := by
  refine ⟨?_, nofun⟩
  rw [evE, if_pos no, show evI T it env w = _ from hi]
  dsimp only [bnd]
  rw [lc_filter (p := pr) (u := u) fun a ha => (ht a ha).run]
  rfl
/-- .. without a test -/
theorem E.lcA {α : Type} {vs : List Nat} {tg : Tg} {it : CE} {e' : α → D} {l : List α} {u : α → D} (hi : EI T it env w (l.map e') w1) (no : noOwn env vs = true) (ht : ∀ a ∈ l, Turn T vs tg c e env w1 (e' a) true (u a)) :
    E T (.lc vs tg it c e) env w .own (.lst (l.map u)) w1 := by
  have := E.lc (pr := fun _ => true) hi no ht
  rwa [show l.filter (fun _ => true) = l by simp] at this
theorem lcLoop_all {α : Type} {vs : List Nat} {tg : Tg} {e' : α → D} {l : List α} {u : α → D} (ht : ∀ a ∈ l, Turn T vs tg c e env w (e' a) true (u a)) :
    lcLoop (fun x w2 => match bindTg tg x (wipeE env vs) with
      | some env' => bnd (evE T c env' w2) fun b w3 => match b with
        | (_, .bl true) => bnd (evE T e env' w3) fun y w4 => lift ((keepOk y).map some) w4
        | (_, .bl false) => ret none w3
        | _ => none
      | none => none) (l.map e') w = some (.ok (l.map u) w) := lc_map fun a ha => (ht a ha).run
theorem lcLoop_fil {α : Type} {vs : List Nat} {tg : Tg} {e' : α → D} {l : List α} {pr : α → Bool} {u : α → D} (ht : ∀ a ∈ l, Turn T vs tg c e env w (e' a) (pr a) (u a)) :
    lcLoop (fun x w2 => match bindTg tg x (wipeE env vs) with
      | some env' => bnd (evE T c env' w2) fun b w3 => match b with
        | (_, .bl true) => bnd (evE T e env' w3) fun y w4 => lift ((keepOk y).map some) w4
        | (_, .bl false) => ret none w3
        | _ => none
      | none => none) (l.map e') w = some (.ok ((l.filter pr).map u) w) := lc_filter fun a ha => (ht a ha).run
/-- two clauses: the outer item is bound and kept if c; the inner walk then -/
structure Turn2 (T : Tab) (vs : List Nat) (tg : Tg) (c : CE) (vs' : List Nat) (tg' : Tg) (it' c' e : CE) (env : En) (w : Wd) (x : D) (us : List D) : Prop where
  ex : ∃ env1 kc p, bindTg tg x (wipeE env vs) = some env1 ∧ E T c env1 w kc (.bl p) w ∧ (p = false → us = []) ∧ (p = true → noOwn env1 vs' = true ∧ ∃ zs, EI T it' env1 w zs w ∧
    lcLoop (fun x w2 => match bindTg tg' x (wipeE env1 vs') with
      | some env' => bnd (evE T c' env' w2) fun b w3 => match b with
        | (_, .bl true) => bnd (evE T e env' w3) fun y w4 => lift ((keepOk y).map some) w4
        | (_, .bl false) => ret none w3
        | _ => none
      | none => none) zs w = some (.ok us w))
theorem E.lc2 {α : Type} {vs : List Nat} {tg : Tg} {it c' : CE} {vs' : List Nat} {tg' : Tg} {it' : CE} {e' : α → D} {l : List α} {us : α → List D} (hi : EI T it env w (l.map e') w1) (no : noOwn env vs = true) (ht : ∀ a ∈ l, Turn2 T vs tg c vs' tg' it' c' e env w1 (e' a) (us a)) (hz : (l.flatMap us).length ≤ 16777216) :
    E T (.lc2 vs tg it c vs' tg' it' c' e) env w .own (.lst (l.flatMap us)) w1 := by
  refine ⟨?_, nofun⟩
  rw [evE, if_pos no, show evI T it env w = _ from hi]
  dsimp only [bnd]
  rw [lc2_map (g := us) fun a ha => ?_]
  · dsimp only [bnd]
    rw [if_pos (show szOk (l.flatMap us).length = true from decide_eq_true hz)]; rfl
  · obtain ⟨env1, kc, p, hb, hc, h0, h1⟩ := (ht a ha).ex
    rw [hb]
    dsimp only
    rw [hc.eq]
    cases p with
    | false => rw [h0 rfl]; rfl
    | true =>
      obtain ⟨n2, zs, h2, h3⟩ := h1 rfl
      dsimp only [bnd]
      rw [if_pos n2, show evI T it' env1 w1 = _ from h2]
      exact h3
/-! ### statements -/
variable {s r s1 s2 : CS} {o : Out}
theorem ES.nil : ES T .nil env w (.next env w) := rfl
theorem ES.next (h : ES T s env w (.next env1 w1)) (h2 : ES T r env1 w1 o) : ES T (.cons s r) env w o := by
  show evS T (.cons s r) env w = _
  rw [evS, show evS T s env w = _ from h]; exact h2
theorem ES.stop (h : ES T s env w o) (hn : ∀ e v, o ≠ .next e v) : ES T (.cons s r) env w o := by
  show evS T (.cons s r) env w = _
  rw [evS, show evS T s env w = _ from h]
  cases o <;> first | rfl | exact absurd rfl (hn _ _)
theorem ES.flat (h : ES T (.cons s1 (.cons s2 r)) env w o) : ES T (.cons (.cons s1 s2) r) env w o := by
  show evS T (.cons (.cons s1 s2) r) env w = _
  have h : evS T (.cons s1 (.cons s2 r)) env w = some o := h
  rw [evS] at h ⊢
  rw [evS]
  cases e1 : evS T s1 env w with
  | none => rw [e1] at h; simpa using h
  | some o1 =>
    rw [e1] at h
    cases o1 with
    | next e v =>
      dsimp only at h ⊢
      rw [evS] at h
      exact h
    | _ => simpa using h
theorem evS_flat (s1 s2 r : CS) (env : En) (w : Wd) : evS T (.cons (.cons s1 s2) r) env w = evS T (.cons s1 (.cons s2 r)) env w := by
  rw [evS, evS, evS]
  cases e1 : evS T s1 env w with
  | none => rfl
  | some o1 =>
    cases o1 with
    | next e v => dsimp only; rw [evS]
    | _ => rfl
theorem ES.flat2 {s3 : CS} (h : ES T (.cons s1 (.cons s2 (.cons s3 r))) env w o) : ES T (.cons (.cons s1 (.cons s2 s3)) r) env w o := by
  refine ES.flat ?_
  show evS T (.cons s1 (.cons (.cons s2 s3) r)) env w = _
  have h : evS T (.cons s1 (.cons s2 (.cons s3 r))) env w = some o := h
  rw [evS] at h ⊢
  cases e1 : evS T s1 env w with
  | none => rw [e1] at h; exact h
  | some o1 =>
    rw [e1] at h
    cases o1 with
    | next e v => dsimp only at h ⊢; rw [evS_flat]; exact h
    | _ => exact h
theorem ES.nils (h : ES T r env w o) : ES T (.cons .nil r) env w o := by
  show evS T (.cons .nil r) env w = _
  rw [evS]; exact h
theorem ES.asg {i : Nat} (h : E T e env w .val x w1) : ES T (.asg (.one i) e) env w (.next (env.set i (.val x)) w1) := by
  show evS T (.asg (.one i) e) env w = _
  rw [evS, h.eq]; rfl
theorem ES.asgO {i : Nat} (h : E T e env w .own x w1) : ES T (.asg (.one i) e) env w (.next (env.set i (.own x)) w1) := by
  show evS T (.asg (.one i) e) env w = _
  rw [evS, h.eq]; rfl
/-- x = e, what is told as its own then frozen -/
theorem ES.asgF {i : Nat} (h : E T e env w k x w1) (hk : kept k = true) (hi : Nat.blt i env.length = true) (h2 : ES T r (env.set i (.val x)) w1 o) : ES T (.cons (.asg (.one i) e) (.cons (.frz i) r)) env w o := by
  have hi : i < env.length := Nat.le_of_ble_eq_true hi
  cases k with
  | val =>
    refine ES.next (ES.asg h) (ES.next (env1 := env.set i (.val x)) ?_ h2)
    show evS T (.frz i) (env.set i (.val x)) w1 = _
    rw [evS, frzE, List.getElem?_set_self hi]
  | own =>
    refine ES.next (ES.asgO h) (ES.next (env1 := env.set i (.val x)) ?_ h2)
    show evS T (.frz i) (env.set i (.own x)) w1 = _
    rw [evS, frzE, List.getElem?_set_self hi]
    simp
  | _ => cases hk
theorem ES.asgs {is : List Nat} (h : E T e env w k x w1) (hk : kept k = true) (hb : bindTg (.many is) x env = some env1) : ES T (.asg (.many is) e) env w (.next env1 w1) := by
  show evS T (.asg (.many is) e) env w = _
  rw [evS, h.eq]
  dsimp only [obnd]
  rw [keepOk_of hk]
  dsimp only
  rw [hb]; rfl
theorem ES.ret (h : E T e env w k x w1) (hk : kept k = true) (hv : varOf e = none) : ES T (.ret e) env w (.ret k x w1) := by
  show evS T (.ret e) env w = _
  rw [evS, hv]
  dsimp only
  rw [h.eq]
  cases k <;> first | rfl | cases hk
theorem ES.retV {i : Nat} (h : env[i]? = some (.val d)) : ES T (.ret (.var i)) env w (.ret .val d w) := by
  show evS T (.ret (.var i)) env w = _
  rw [evS, varOf]
  dsimp only
  rw [h]
theorem ES.retO {i : Nat} (h : env[i]? = some (.own d)) : ES T (.ret (.var i)) env w (.ret .own d w) := by
  show evS T (.ret (.var i)) env w = _
  rw [evS, varOf]
  dsimp only
  rw [h]
theorem ES.retn : ES T .retn env w (.ret .val .non w) := rfl
theorem ES.ex (h : E T e env w k x w1) : ES T (.ex e) env w (.next env w1) := by
  show evS T (.ex e) env w = _
  rw [evS, h.eq]; rfl
theorem ES.exX {cl : Nat} {pl : List D} (h : EX T e env w cl pl w1) : ES T (.ex e) env w (.exc cl pl w1) := by
  show evS T (.ex e) env w = _
  rw [evS, show evE T e env w = _ from h]; rfl
theorem ES.rai {cl : Nat} : ES T (.rai cl .nil) env w (.exc cl [] w) := rfl
theorem ES.if (h : E T c env w k (.bl p) w1) (h1 : p = true → ES T (.cons s1 r) env w1 o) (h2 : p = false → ES T (.cons s2 r) env w1 o) : ES T (.cons (.ite c s1 s2) r) env w o := by
  show evS T (.cons (.ite c s1 s2) r) env w = _
  rw [evS, evS, h.eq]
  cases p with
  | true =>
    have := h1 rfl
    have this : evS T (.cons s1 r) env w1 = some o := this
    rw [evS] at this
    exact this
  | false =>
    have := h2 rfl
    have this : evS T (.cons s2 r) env w1 = some o := this
    rw [evS] at this
    exact this
theorem ES.ifR {w2 : Wd} {x y : D} {k1 : Kd} (h : E T c env w k (.bl p) w1) (h1 : p = true → ES T (.cons s1 r) env w1 (.ret k1 x w2)) (h2 : p = false → ES T (.cons s2 r) env w1 (.ret k1 y w2)) : ES T (.cons (.ite c s1 s2) r) env w (.ret k1 (if p then x else y) w2) :=
  ES.if h (fun e => by subst e; exact h1 rfl) fun e => by subst e; exact h2 rfl
/-- return x, from within a branch -/
theorem ES.retF (h : E T e env w k x w1) (hk : kept k = true) (hv : varOf e = none) : ES T (.cons (.cons (.ret e) s1) r) env w (.ret k x w1) := ES.flat (ES.stop (ES.ret h hk hv) nofun)
theorem ES.retL (h : E T e env w k x w1) (hk : kept k = true) (hv : varOf e = none) : ES T (.cons (.ret e) r) env w (.ret k x w1) := ES.stop (ES.ret h hk hv) nofun
theorem ES.app {i : Nat} {xs : List D} (hi : env[i]? = some (.own (.lst xs))) (h : E T e env w k x w1) (hk : kept k = true) (hz : xs.length < 16777216) : ES T (.app i e) env w (.next (env.set i (.own (.lst (xs ++ [x])))) w1) := by
  show evS T (.app i e) env w = _
  rw [evS, hi]
  dsimp only
  rw [h.eq]
  dsimp only [obnd]
  rw [keepOk_of hk]
  dsimp only
  rw [decide_eq_true hz, if_pos rfl]
theorem ES.put {i : Nat} {cd cd' kd : D} (hi : env[i]? = some (.own cd)) (h : E T e env w k x w1) (hk : kept k = true) (h2 : E T a env w1 k1 kd w2) (hk1 : kept k1 = true) (hp : putD cd kd x = some cd') : ES T (.put i a e) env w (.next (env.set i (.own cd')) w2) := by
  show evS T (.put i a e) env w = _
  rw [evS, hi]
  dsimp only
  rw [h.eq]
  dsimp only [obnd]
  rw [keepOk_of hk]
  dsimp only
  rw [h2.eq]
  dsimp only
  rw [keepOk_of hk1]
  dsimp only
  rw [hp]; rfl
theorem ES.cput {n : Nat} {cd cd' kd : D} (h : E T e env w k x w1) (hk : kept k = true) (ho : E T a env w1 .val (.cell n) w2) (h2 : E T b env w2 k1 kd w3) (hk1 : kept k1 = true) (hw : w3[n]? = some cd) (hp : putD cd kd x = some cd') : ES T (.cput a b e) env w (.next env (w3.set n cd')) := by
  show evS T (.cput a b e) env w = _
  rw [evS, h.eq]
  dsimp only [obnd]
  rw [keepOk_of hk]
  dsimp only
  rw [ho.eq]
  dsimp only
  rw [h2.eq]
  dsimp only
  rw [keepOk_of hk1, hw]
  dsimp only
  rw [hp]; rfl
theorem ES.forE {α : Type} {tg : Tg} {it : CE} {e' : α → D} {l : List α} (R : List α → En → Prop) (hi : EI T it env w (l.map e') w1) (h0 : R [] (frzI it env))
    (hs : ∀ pre a post env, l = pre ++ a :: post → R pre env → ∃ env1 env2, bindTg tg (e' a) env = some env1 ∧ ES T s env1 w1 (.next env2 w1) ∧ R (pre ++ [a]) env2) : ∃ env', ES T (.for tg it s) env w (.next env' w1) ∧ R l env' := by
  obtain ⟨env', h1, h2⟩ := for_pre (w := w1) (body := evS T s) R h0 hs
  refine ⟨env', ?_, h2⟩
  show evS T (.for tg it s) env w = _
  rw [evS, show evI T it env w = _ from hi]
  exact h1
theorem ES.for {α : Type} {tg : Tg} {it : CE} {e' : α → D} {l : List α} (R : List α → En → Prop) (hi : EI T it env w (l.map e') w1) (h0 : R [] (frzI it env))
    (hs : ∀ pre a post env, l = pre ++ a :: post → R pre env → ∃ env1 env2, bindTg tg (e' a) env = some env1 ∧ ES T s env1 w1 (.next env2 w1) ∧ R (pre ++ [a]) env2) (hn : ∀ env', R l env' → ES T r env' w1 o) :
    ES T (.cons (.for tg it s) r) env w o := by
  obtain ⟨env', h1, h2⟩ := for_pre (w := w1) (body := evS T s) R h0 hs
  refine ES.next (env1 := env') (w1 := w1) ?_ (hn env' h2)
  show evS T (.for tg it s) env w = _
  rw [evS, show evI T it env w = _ from hi]
  exact h1
theorem ES.shr {i : Nat} (h : env[i]? = some (.own d)) : ES T (.shr i) env w (.next (env.set i (.val (.cell w.length))) (w ++ [d])) := by
  show evS T (.shr i) env w = _
  rw [evS, h]
theorem ES.tryOk {i cl n j : Nat} (h : E T e env w k x w1) (hk : kept k = true) : ES T (.tryc i e cl n j) env w (.next (env.set i (.val x)) w1) ∨ ES T (.tryc i e cl n j) env w (.next (env.set i (.own x)) w1) := by
  cases k with
  | val => left; show evS T (.tryc i e cl n j) env w = _; rw [evS, h.eq]
  | own => right; show evS T (.tryc i e cl n j) env w = _; rw [evS, h.eq]
  | _ => cases hk
theorem ES.tryX {i cl n j c0 : Nat} (h : EX T e env w c0 [] w1) (hs : T.sub c0 cl = some true) (hn : n ≠ j ∧ n < env.length) : ES T (.tryc i e cl n j) env w (.next ((env.set j (.val (.exc c0 []))).set n .no) w1) := by
  show evS T (.tryc i e cl n j) env w = _
  rw [evS, show evE T e env w = _ from h]
  dsimp only
  rw [hs]
  dsimp only
  rw [if_pos (by simp [hn])]
end
/-! ### defs -/
abbrev Gives (T : Tab) (f : Nat) (ds : List D) (r : D) : Prop := ∀ w, T.call f ds w = some (.ok (.val, r) w)
abbrev GivesO (T : Tab) (f : Nat) (ds : List D) (r : D) : Prop := ∀ w, T.call f ds w = some (.ok (.own, r) w)
abbrev Throws (T : Tab) (f : Nat) (ds : List D) (c : Nat) : Prop := ∀ w, T.call f ds w = some (.exc c [] w)
abbrev Runs (T : Tab) (d : Df) (ds : List D) (r : D) : Prop := ∀ w, runD T d ds w = some (.ok (.val, r) w)
abbrev RunsO (T : Tab) (d : Df) (ds : List D) (r : D) : Prop := ∀ w, runD T d ds w = some (.ok (.own, r) w)
abbrev RunsX (T : Tab) (d : Df) (ds : List D) (c : Nat) : Prop := ∀ w, runD T d ds w = some (.exc c [] w)
section
variable {T : Tab} {d : Df} {ds : List D} {r : D} {w : Wd}
theorem run_ret {k : Kd} (hp : ds.length = d.pars) (h : ES T d.body (startE d.slots ds) w (.ret k r w)) : runD T d ds w = some (.ok (k, r) w) := by
  unfold runD
  rw [if_pos hp, show evS T d.body (startE d.slots ds) w = _ from h]
  simp [back, trim_same]
theorem run_eq {k : Kd} {r' : D} (hp : ds.length = d.pars) (h : ES T d.body (startE d.slots ds) w (.ret k r' w)) (e : r' = r) : runD T d ds w = some (.ok (k, r) w) := by subst e; exact run_ret hp h
theorem run_end {env : En} (hp : ds.length = d.pars) (h : ES T d.body (startE d.slots ds) w (.next env w)) : runD T d ds w = some (.ok (.val, .non) w) := by
  unfold runD
  rw [if_pos hp, show evS T d.body (startE d.slots ds) w = _ from h]
  simp [back, trim_same]
theorem run_exc {c : Nat} {p : List D} (hp : ds.length = d.pars) (h : ES T d.body (startE d.slots ds) w (.exc c p w)) : runD T d ds w = some (.exc c p w) := by
  unfold runD
  rw [if_pos hp, show evS T d.body (startE d.slots ds) w = _ from h]
  simp [back, trim_same]
end
/-! ### operations on encoded data -/
section
variable {α : Type} [DecidableEq α] {e : α → D} {n : Nat}
theorem cmp_eq [Enc e n] (h : n ≤ 8) (a b : α) : cmpD .eq (e a) (e b) = some (decide (a = b)) := by
  simp only [cmpD, eqOk, Enc.shp 8 _ h, Bool.and_self, if_true, Enc.eq]
theorem cmp_ne [Enc e n] (h : n ≤ 8) (a b : α) : cmpD .ne (e a) (e b) = some (!decide (a = b)) := by
  simp only [cmpD, eqOk, Enc.shp 8 _ h, Bool.and_self, if_true, Enc.eq]
theorem cmp_in_tup [Enc e n] (h : n ≤ 7) (a : α) (l : List α) : cmpD .isin (e a) (.tup (l.map e)) = some (memB a l) := by
  have h2 := (encTup (e := e)).shp 8 l (by omega)
  simp only [cmpD]
  rw [Enc.shp 7 a h, h2, inD_map]; rfl
theorem cmp_notin_tup [Enc e n] (h : n ≤ 7) (a : α) (l : List α) : cmpD .notin (e a) (.tup (l.map e)) = some (!memB a l) := by
  have h2 := (encTup (e := e)).shp 8 l (by omega)
  simp only [cmpD]
  rw [Enc.shp 7 a h, h2, inD_map]; rfl
theorem cmp_in_lst [Enc e n] (h : n ≤ 7) (a : α) (l : List α) : cmpD .isin (e a) (.lst (l.map e)) = some (memB a l) := by
  have h2 := (encLst (e := e)).shp 8 l (by omega)
  simp only [cmpD]
  rw [Enc.shp 7 a h, h2, inD_map]; rfl
theorem cmp_notin_lst [Enc e n] (h : n ≤ 7) (a : α) (l : List α) : cmpD .notin (e a) (.lst (l.map e)) = some (!memB a l) := by
  have h2 := (encLst (e := e)).shp 8 l (by omega)
  simp only [cmpD]
  rw [Enc.shp 7 a h, h2, inD_map]; rfl
end
theorem add_lst (xs ys : List D) (h : xs.length + ys.length ≤ 16777216) : binD .add (.lst xs) (.lst ys) = some (.own, .lst (xs ++ ys)) := by simp [binD, szOk, h]
theorem add_tup (xs ys : List D) (h : xs.length + ys.length ≤ 16777216) : binD .add (.tup xs) (.tup ys) = some (.val, .tup (xs ++ ys)) := by simp [binD, szOk, h]
theorem blt_all {α : Type} (f : α → Bool) (l : List α) : bltD .all (.lst (l.map fun a => D.bl (f a))) = some (.val, .bl (l.all f)) := by simp [bltD, boolsD_fn, List.all_map]
theorem blt_any {α : Type} (f : α → Bool) (l : List α) : bltD .any (.lst (l.map fun a => D.bl (f a))) = some (.val, .bl (l.any f)) := by simp [bltD, boolsD_fn, List.any_map]
end R
end
section
set_option Elab.async false
set_option linter.all false
/-! MC: what the program's defs give, on lists of ints. -/
namespace R
open PySem
section
variable {T : Tab}
theorem is_integer_ok (i : Int) : Runs T D_is_integer [.int i] (.bl true) := fun w =>
  run_eq rfl (ES.retL (E.and (E.blt (E.var rfl) rfl) fun _ => E.not (E.blt (E.var rfl) rfl)) rfl rfl) rfl
def vtx (i : Int) : Bool := decide (0 ≤ i) && decide (i ≤ 7)
theorem is_vertex_ok {f : Nat} (h : ∀ i, Gives T f [.int i] (.bl true)) (i : Int) : Runs T (D_is_vertex f) [.int i] (.bl (vtx i)) := fun w =>
  run_eq rfl (ES.retL (E.and (E.call (EL.cons (E.var rfl) EL.nil) rfl (h i w) rfl) fun _ => E.chain E.int (E.var rfl) rfl fun _ => ⟨E.int, rfl⟩) rfl rfl) (by simp [vtx])
/-- each below the next one -/
def ascB {α : Type} (lt : α → α → Bool) (l : List α) : Bool := (l.zip l.tail).all fun p => lt p.1 p.2
theorem ascB_iff {α : Type} {lt : α → α → Bool} (h : SO lt) : ∀ l : List α, ascB lt l = true ↔ Asc lt l
  | [] => by simp [ascB]
  | [a] => by simp [ascB]
  | a :: b :: l => by
    have ih := ascB_iff h (b :: l)
    have e : ascB lt (a :: b :: l) = (lt a b && ascB lt (b :: l)) := by simp [ascB]
    rw [e, Bool.and_eq_true, ih]
    constructor
    · rintro ⟨h1, h2⟩
      refine List.pairwise_cons.mpr ⟨fun c hc => ?_, h2⟩
      rcases List.mem_cons.mp hc with rfl | hc
      · exact h1
      · exact h.tr _ _ _ h1 ((List.pairwise_cons.mp h2).1 c hc)
    · intro p
      have p := List.pairwise_cons.mp p
      exact ⟨p.1 b List.mem_cons_self, p.2⟩
theorem zip_tail {α : Type} {e : α → D} (l : List α) : zip2 (l.map e) (cutD (l.map e) (some 1) none) = (l.zip l.tail).map fun p => D.tup [e p.1, e p.2] := by
  rw [cut_from1, ← List.map_tail, zip2_map]
theorem is_ascending_tup {α : Type} {e : α → D} {lt : α → α → Bool} (h : ∀ a b, cmpD .lt (e a) (e b) = some (lt a b)) (l : List α) : Runs T D_is_ascending [.tup (l.map e)] (.bl (ascB lt l)) := fun w =>
  run_eq rfl (ES.retL (E.blt (E.lcA (l := l.zip l.tail) (e' := fun p => .tup [e p.1, e p.2]) (u := fun p => .bl (lt p.1 p.2)) (EI.iz (EL.cons (E.var rfl) (EL.cons (E.slce_from (E.var rfl) rfl E.int rfl) EL.nil)) (congrArg some (zip_tail l))) rfl fun p _ => Turn.all rfl (E.cmp (E.var rfl) (E.var rfl) (h _ _)) rfl) (blt_all _ _)) rfl rfl) rfl
theorem is_ascending_lst {α : Type} {e : α → D} {lt : α → α → Bool} (h : ∀ a b, cmpD .lt (e a) (e b) = some (lt a b)) (l : List α) : Runs T D_is_ascending [.lst (l.map e)] (.bl (ascB lt l)) := fun w =>
  run_eq rfl (ES.retL (E.blt (E.lcA (l := l.zip l.tail) (e' := fun p => .tup [e p.1, e p.2]) (u := fun p => .bl (lt p.1 p.2)) (EI.iz (EL.cons (E.var rfl) (EL.cons (E.slce_from (E.var rfl) rfl E.int rfl) EL.nil)) (congrArg some (zip_tail l))) rfl fun p _ => Turn.all rfl (E.cmp (E.var rfl) (E.var rfl) (h _ _)) rfl) (blt_all _ _)) rfl rfl) rfl
/-! ### simplices -/
def simB (s : (List Int)) : Bool := decide (1 ≤ s.length) && decide (s.length ≤ 4) && s.all vtx && ascB iLt s
theorem cmp_int_lt (a b : Int) : cmpD .lt (.int a) (.int b) = some (iLt a b) := rfl
theorem is_simplex_ok {fa fv : Nat} (hv : ∀ i, Gives T fv [.int i] (.bl (vtx i))) (ha : ∀ s : (List Int), Gives T fa [tupI s] (.bl (ascB iLt s))) (s : (List Int)) : Runs T (D_is_simplex fa fv) [tupI s] (.bl (simB s)) := fun w => by
  refine run_eq rfl (ES.ifR (E.or (E.not (E.blt (E.var rfl) rfl)) fun _ => E.or (E.not (E.chain E.int (E.blt (E.var rfl) rfl) rfl fun _ => ⟨E.int, rfl⟩)) fun _ => E.not (E.blt (E.lcA (l := s) (e' := D.int) (u := fun i => .bl (vtx i)) (EI.iv (E.var rfl) rfl rfl) rfl fun i _ => Turn.all rfl (E.call (EL.cons (E.var rfl) EL.nil) rfl (hv i w) rfl) rfl) (blt_all _ _)))
    (fun _ => ES.retF E.bl rfl rfl) fun _ => ES.nils (ES.retL (E.call (EL.cons (E.var rfl) EL.nil) rfl (ha s w) rfl) rfl rfl)) ?_
  simp only [simB, List.length_map]
  have e1 : decide ((1 : Int) ≤ (s.length : Nat)) = decide (1 ≤ s.length) := by simp; omega
  have e2 : decide (((s.length : Nat) : Int) ≤ 4) = decide (s.length ≤ 4) := by simp; omega
  rw [e1, e2]
  cases decide (1 ≤ s.length) <;> cases decide (s.length ≤ 4) <;> cases s.all vtx <;> simp
theorem is_simplex_lst {fa fv : Nat} (xs : List D) : Runs T (D_is_simplex fa fv) [.lst xs] (.bl false) := fun w =>
  run_ret rfl (ES.if (p := true) (E.or (p := true) (q := true) (E.not (p := false) (E.blt (E.var rfl) rfl)) fun h => by cases h) (fun _ => ES.retF E.bl rfl rfl) fun h => by cases h)
theorem simplex_key_ok (s : (List Int)) : Runs T D_simplex_key [tupI s] (keyD s) := fun w =>
  run_eq rfl (ES.retL (E.tup (EL.cons (E.blt (E.var rfl) rfl) (EL.cons (E.var rfl) EL.nil)) rfl) rfl rfl) (by simp [keyD])
/-! ### the subsets of a simplex -/
def rowsOf (s : (List Int)) : List (List Int) := s.foldl (fun rows v => rows ++ rows.map (· ++ [v])) [[]]
def subs (s : (List Int)) : List (List Int) := (rowsOf s).drop 1
theorem mem_rows : ∀ (s : (List Int)) (rows : List (List Int)) (r : (List Int)), r ∈ s.foldl (fun rows v => rows ++ rows.map (· ++ [v])) rows ↔ ∃ p ∈ rows, ∃ q, q.Sublist s ∧ r = p ++ q
  | [], rows, r => by
    simp only [List.foldl_nil]
    exact ⟨fun h => ⟨r, h, [], List.Sublist.slnil, by simp⟩, fun ⟨p, hp, q, hq, e⟩ => by rw [List.sublist_nil.mp hq] at e; rw [e, List.append_nil]; exact hp⟩
  | v :: s, rows, r => by
    rw [List.foldl_cons, mem_rows s]
    constructor
    · rintro ⟨p, hp, q, hq, rfl⟩
      rcases List.mem_append.mp hp with hp | hp
      · exact ⟨p, hp, q, hq.cons v, rfl⟩
      · obtain ⟨p', hp', rfl⟩ := List.mem_map.mp hp
        exact ⟨p', hp', v :: q, hq.cons_cons v, by simp⟩
    · rintro ⟨p, hp, q, hq, rfl⟩
      cases hq with
      | cons _ h => exact ⟨p, List.mem_append_left _ hp, _, h, rfl⟩
      | cons_cons _ h => exact ⟨p ++ [v], List.mem_append_right _ (List.mem_map_of_mem (f := (· ++ [v])) hp), _, h, by simp⟩
theorem rows_head : ∀ (s : (List Int)) (rows : List (List Int)), (∀ r ∈ rows, r ≠ []) → ∀ r ∈ (s.foldl (fun rows v => rows ++ rows.map (· ++ [v])) ([] :: rows)).drop 1, r ≠ []
  | [], rows, h => by simpa using h
  | v :: s, rows, h => by
    rw [List.foldl_cons]
    refine rows_head s (rows ++ ([] :: rows).map (· ++ [v])) ?_
    intro r hr
    rcases List.mem_append.mp hr with hr | hr
    · exact h r hr
    · obtain ⟨p, _, rfl⟩ := List.mem_map.mp hr
      simp
theorem rows_first : ∀ (s : (List Int)) (rows : List (List Int)), ∃ rest, s.foldl (fun rows v => rows ++ rows.map (· ++ [v])) ([] :: rows) = [] :: rest
  | [], rows => ⟨rows, rfl⟩
  | v :: s, rows => by rw [List.foldl_cons]; exact rows_first s (rows ++ ([] :: rows).map (· ++ [v]))
theorem mem_subs {s r : (List Int)} : r ∈ subs s ↔ r.Sublist s ∧ r ≠ [] := by
  have m := mem_rows s [[]] r
  simp only [List.mem_singleton, exists_eq_left, List.nil_append, exists_eq_right'] at m
  obtain ⟨rest, e⟩ := rows_first s []
  have h := rows_head s [] (fun r hr => by cases hr)
  unfold subs rowsOf
  rw [e] at m h ⊢
  simp only [List.drop_one, List.tail_cons] at h ⊢
  rw [List.mem_cons] at m
  constructor
  · exact fun hr => ⟨m.mp (.inr hr), h r hr⟩
  · rintro ⟨h1, h2⟩
    exact (m.mpr h1).resolve_left h2
theorem rows_len : ∀ (s : (List Int)) (rows : List (List Int)), (s.foldl (fun rows v => rows ++ rows.map (· ++ [v])) rows).length = rows.length * 2 ^ s.length
  | [], rows => by simp
  | v :: s, rows => by
    rw [List.foldl_cons, rows_len s, List.length_append, List.length_map, List.length_cons, Nat.pow_succ, ← Nat.two_mul, Nat.mul_comm 2 rows.length, Nat.mul_assoc, Nat.mul_comm (2 ^ s.length) 2]
theorem subsets_ok {s : (List Int)} (hs : s.length ≤ 16) : RunsO T D_subsets [tupI s] (lstS (subs s)) := fun w => by
  refine run_ret rfl (ES.asgF (E.lst (EL.cons (E.tup EL.nil rfl) EL.nil) rfl) rfl rfl (ES.for (l := s) (e' := D.int) (fun pre env => ∃ s2, env = [.val (tupI s), .val (lstS (rowsOf pre)), s2, .no]) (EI.iv (E.var rfl) rfl rfl) ⟨.no, rfl⟩ ?_ ?_))
  · rintro pre v post env e ⟨s2, rfl⟩
    have hl : (rowsOf pre).length ≤ 2 ^ 16 := by
      unfold rowsOf
      rw [rows_len]
      have : pre.length ≤ 16 := by rw [e] at hs; simp at hs; omega
      have := Nat.pow_le_pow_right (show 0 < 2 by decide) this
      simpa using this
    have hr : ∀ r ∈ rowsOf pre, r.length ≤ 16 := fun r hr => by
      have := (mem_rows pre [[]] r).mp hr
      obtain ⟨p, hp, q, hq, rfl⟩ := this
      simp at hp
      subst hp
      have := hq.length_le
      rw [e] at hs
      simp at hs ⊢
      omega
    refine ⟨_, _, rfl, ES.asgF (E.bin (E.var rfl) (E.lcA (l := rowsOf pre) (e' := tupI) (u := fun r => tupI (r ++ [v])) (EI.iv (E.var rfl) rfl rfl) rfl fun r hr' => Turn.all rfl (E.bin (k2 := .val) (E.var rfl) (E.tup (EL.cons (E.var rfl) EL.nil) rfl) ?_) rfl) (add_lst _ _ ?_)) rfl rfl ES.nil, .val (.int v), ?_⟩
    · have := hr r hr'
      rw [show tupI r = .tup (r.map .int) from rfl, add_tup _ _ (by simp; omega)]
      simp [tupI]
    · simp; omega
    · rw [show rowsOf (pre ++ [v]) = rowsOf pre ++ (rowsOf pre).map (· ++ [v]) by simp [rowsOf]]
      simp only [lstS, List.map_append, List.map_map]
      rfl
  · rintro env' ⟨s2, rfl⟩
    refine ES.retL (E.slce_from (E.var rfl) rfl E.int ?_) rfl rfl
    simp [slcD, lstS, cut_from1, subs]
/-! ### all simplices that some contain -/
theorem putD_key (l : List (List Int)) (v : (List Int)) (hz : l.length < 16777216) : putD (.dic (l.map tupI) (l.map fun _ => .bl true)) (tupI v) (.bl true) = some (.dic ((if v ∈ l then l else l ++ [v]).map tupI) ((if v ∈ l then l else l ++ [v]).map fun _ => .bl true)) := by
  show (if isKey (tupI v) && (l.map tupI).all isKey && decide ((l.map tupI).length < 16777216) then some (D.dic (putK (tupI v) (.bl true) (l.map tupI) (l.map fun _ => .bl true)).1 (putK (tupI v) (.bl true) (l.map tupI) (l.map fun _ => .bl true)).2) else none) = _
  rw [isKey_tupI, isKeys, List.length_map, decide_eq_true hz]
  simp only [Bool.and_self, if_true]
  unfold putK
  rw [inD_map]
  by_cases h : v ∈ l
  · simp only [h, memB, decide_true, if_true]
    congr 2
    rw [List.zip_map', List.map_map]
    refine List.map_congr_left fun a _ => ?_
    simp
  · simp [h, memB]
def addK (l : List (List Int)) (v : (List Int)) : List (List Int) := if v ∈ l then l else l ++ [v]
theorem mem_addK {l : List (List Int)} {v x : (List Int)} : x ∈ addK l v ↔ x ∈ l ∨ x = v := by
  unfold addK
  split
  · rename_i h
    exact ⟨.inl, fun z => z.elim id fun e => e ▸ h⟩
  · simp
theorem mem_adds {x : (List Int)} : ∀ {vs l : List (List Int)}, x ∈ vs.foldl addK l ↔ x ∈ l ∨ x ∈ vs
  | [], l => by simp
  | v :: vs, l => by rw [List.foldl_cons, mem_adds, mem_addK, List.mem_cons, or_assoc]
theorem nodup_addK {l : List (List Int)} {v : (List Int)} (h : l.Nodup) : (addK l v).Nodup := by
  unfold addK
  split
  · exact h
  · rename_i hv
    rw [List.nodup_append]
    exact ⟨h, by simp, fun a ha b hb => by rintro rfl; simp at hb; subst hb; exact hv ha⟩
theorem nodup_adds : ∀ {vs l : List (List Int)}, l.Nodup → (vs.foldl addK l).Nodup
  | [], _, h => h
  | v :: vs, l, h => by rw [List.foldl_cons]; exact nodup_adds (nodup_addK h)
theorem len_addK (l : List (List Int)) (v : (List Int)) : (addK l v).length ≤ l.length + 1 := by unfold addK; split <;> simp
theorem len_adds : ∀ (vs l : List (List Int)), (vs.foldl addK l).length ≤ l.length + vs.length
  | [], l => by simp
  | v :: vs, l => by rw [List.foldl_cons]; have := len_adds vs (addK l v); have := len_addK l v; simp; omega
def keysOf (ss : List (List Int)) : List (List Int) := ss.foldl (fun l s => (subs s).foldl addK l) []
theorem mem_keysG {x : (List Int)} : ∀ {ss l : List (List Int)}, x ∈ ss.foldl (fun l s => (subs s).foldl addK l) l ↔ x ∈ l ∨ ∃ s ∈ ss, x.Sublist s ∧ x ≠ []
  | [], l => by simp
  | s :: ss, l => by
    rw [List.foldl_cons, mem_keysG, mem_adds, mem_subs]
    constructor
    · rintro ((h | h) | ⟨s', h1, h2⟩)
      · exact .inl h
      · exact .inr ⟨s, List.mem_cons_self, h⟩
      · exact .inr ⟨s', List.mem_cons_of_mem _ h1, h2⟩
    · rintro (h | ⟨s', h1, h2⟩)
      · exact .inl (.inl h)
      · rcases List.mem_cons.mp h1 with rfl | h1
        · exact .inl (.inr h2)
        · exact .inr ⟨s', h1, h2⟩
theorem nodup_keysG : ∀ {ss l : List (List Int)}, l.Nodup → (ss.foldl (fun l s => (subs s).foldl addK l) l).Nodup
  | [], _, h => h
  | s :: ss, l, h => by rw [List.foldl_cons]; exact nodup_keysG (nodup_adds h)
theorem len_subs (s : (List Int)) : (subs s).length ≤ 2 ^ s.length := by
  unfold subs rowsOf
  rw [List.length_drop, rows_len]
  simp
theorem len_subs4 {s : (List Int)} (h : s.length ≤ 4) : (subs s).length ≤ 16 := Nat.le_trans (len_subs s) (Nat.pow_le_pow_right (by decide) h)
theorem len_keysG : ∀ {ss l : List (List Int)}, (∀ s ∈ ss, s.length ≤ 4) → (ss.foldl (fun l s => (subs s).foldl addK l) l).length ≤ l.length + 16 * ss.length
  | [], l, _ => by simp
  | s :: ss, l, h => by
    rw [List.foldl_cons]
    have h1 := len_keysG (l := (subs s).foldl addK l) fun x hx => h x (List.mem_cons_of_mem _ hx)
    have h2 := len_adds (subs s) l
    have h3 := len_subs4 (h s List.mem_cons_self)
    simp only [List.length_cons]
    omega
/-- all simplices that some contain -/
def clo (ss : List (List Int)) : List (List Int) := srt kLt (keysOf ss)
theorem mem_clo {ss : List (List Int)} {x : (List Int)} : x ∈ clo ss ↔ ∃ s ∈ ss, x.Sublist s ∧ x ≠ [] := by
  unfold clo keysOf
  rw [mem_srt, mem_keysG]
  simp
theorem asc_clo (ss : List (List Int)) : Asc kLt (clo ss) := srt_asc so_kLt (nodup_keysG List.nodup_nil)
theorem clo_of {ss m : List (List Int)} (a : Asc kLt m) (e : ∀ x, x ∈ m ↔ ∃ s ∈ ss, x.Sublist s ∧ x ≠ []) : clo ss = m :=
  asc_ext so_kLt (asc_clo ss) a fun x => mem_clo.trans (e x).symm
def dicT (l : List (List Int)) : D := .dic (l.map tupI) (l.map fun _ => .bl true)
/-- a walk over a list or a tuple of simplices -/
def SeqS (d : D) (l : List (List Int)) : Prop := d = tupS l ∨ d = lstS l
theorem SeqS.items {d : D} {l : List (List Int)} (h : SeqS d l) : itemsD d = some (l.map tupI) := by rcases h with rfl | rfl <;> rfl
theorem closure_ok {fk fs : Nat} (hk : ∀ s, Gives T fk [tupI s] (keyD s)) (hsu : ∀ s : (List Int), s.length ≤ 16 → GivesO T fs [tupI s] (lstS (subs s))) {d : D} {l : List (List Int)} (hd : SeqS d l) (hl : ∀ s ∈ l, s.length ≤ 4) (hz : l.length ≤ 1000000) : Runs T (D_closure fk fs) [d] (tupS (clo l)) := fun w => by
  refine run_ret rfl (ES.next (ES.asgO E.dic0) (ES.for (l := l) (e' := tupI) (fun pre env => ∃ s2 s3, env = [.val d, .own (dicT (keysOf pre)), s2, s3]) (EI.iv (E.var rfl) rfl hd.items) ⟨.no, .no, rfl⟩ ?_ ?_))
  · rintro pre s post env e ⟨s2, s3, rfl⟩
    have hs : s.length ≤ 4 := hl s (by rw [e]; simp)
    have hp : (keysOf pre).length ≤ 16 * 1000000 := by
      have := len_keysG (ss := pre) (l := []) fun x hx => hl x (by rw [e]; simp [hx])
      have e2 : pre.length ≤ l.length := by rw [e]; simp
      simp at this
      unfold keysOf
      omega
    obtain ⟨env', h1, s3', rfl⟩ := ES.forE (T := T) (tg := .one 3) (s := .cons (.put 1 (.var 3) (.bl true)) .nil) (env := [.val d, .own (dicT (keysOf pre)), .val (tupI s), s3]) (w := w) (w1 := w) (it := .iv (.call fs (.cons (.var 2) .nil))) (l := subs s) (e' := tupI)
      (fun p2 env => ∃ s3, env = [.val d, .own (dicT (p2.foldl addK (keysOf pre))), .val (tupI s), s3]) (EI.iv (E.call (EL.cons (E.var rfl) EL.nil) rfl (hsu s (by omega) w) rfl) rfl rfl) ⟨s3, rfl⟩ (by
        rintro p2 v post2 env e2 ⟨s3, rfl⟩
        have h2 := len_adds p2 (keysOf pre)
        have h3 := len_subs4 hs
        have h4 : p2.length ≤ (subs s).length := by rw [e2]; simp
        refine ⟨_, _, rfl, ES.next (ES.put rfl E.bl rfl (E.var rfl) rfl (putD_key _ v (by omega))) ES.nil, .val (tupI v), ?_⟩
        rw [List.foldl_append]
        rfl)
    refine ⟨_, _, rfl, ES.next h1 ES.nil, .val (tupI s), s3', ?_⟩
    unfold keysOf
    rw [List.foldl_append]
    rfl
  · rintro env' ⟨s2, s3, rfl⟩
    refine ES.retL (E.blt (E.sortk (l := keysOf l) (e' := tupI) (kd := keyD) (E.ovar rfl) rfl (fun a _ => Enc.shp 8 a (by decide)) (fun a _ => hk a []) (sort_keys _ ?_)) rfl) rfl rfl
    have := len_keysG (ss := l) (l := []) hl
    simp at this
    unfold keysOf
    omega
end
end R
end
section
set_option Elab.async false
set_option linter.all false
/-! MC2: complexes. -/
namespace R
open PySem
section
variable {T : Tab}
/-- one contains other -/
def cont (one other : (List Int)) : Bool := other.all fun v => memB v one
theorem cont_iff {a b : (List Int)} : cont a b = true ↔ ∀ v ∈ b, v ∈ a := by simp [cont, memB]
theorem does_contain_ok (a b : (List Int)) : Runs T D_does_contain [tupI a, tupI b] (.bl (cont a b)) := fun w =>
  run_ret rfl (ES.retL (E.blt (E.lcA (l := b) (e' := D.int) (u := fun v => .bl (memB v a)) (EI.iv (E.var rfl) rfl rfl) rfl fun v _ => Turn.all rfl (E.cmp (E.var rfl) (E.var rfl) (cmp_in_tup (by decide) v a)) rfl) (blt_all _ _)) rfl rfl)
/-- no other one contains it -/
def topB (ss : List (List Int)) (s : (List Int)) : Bool := !ss.any fun o => !decide (o = s) && cont o s
def maxi (ss : List (List Int)) : List (List Int) := srt kLt (ss.filter (topB ss))
theorem maximal_ok {fc fk : Nat} (hc : ∀ a b : (List Int), Gives T fc [tupI a, tupI b] (.bl (cont a b))) (hk : ∀ s, Gives T fk [tupI s] (keyD s)) {d : D} {l : List (List Int)} (hd : SeqS d l) (hz : l.length ≤ 1000000) : Runs T (D_maximal fc fk) [d] (tupS (maxi l)) := fun w => by
  have hf : ∀ m : List (List Int), m.length ≤ l.length → (m.filter (topB l)).length ≤ 1000000 := fun m h => Nat.le_trans (List.length_filter_le _ _) (Nat.le_trans h hz)
  refine run_ret rfl (ES.next (ES.asgO (E.lst EL.nil rfl)) (ES.for (l := l) (e' := tupI) (fun pre env => ∃ s2, env = [.val d, .own (lstS (pre.filter (topB l))), s2, .no]) (EI.iv (E.var rfl) rfl hd.items) ⟨.no, rfl⟩ ?_ ?_))
  · rintro pre s post env e ⟨s2, rfl⟩
    have hp : pre.length ≤ l.length := by rw [e]; simp
    refine ⟨_, [.val d, .own (lstS ((pre ++ [s]).filter (topB l))), .val (tupI s), .no], rfl, ?_, _, rfl⟩
    refine ES.if (E.not (E.blt (E.lcA (l := l) (e' := tupI) (u := fun o => .bl (!decide (o = s) && cont o s)) (EI.iv (E.var rfl) rfl hd.items) rfl fun o _ => Turn.all rfl (E.and (E.cmp (E.var rfl) (E.var rfl) (cmp_ne (by decide) o s)) fun _ => E.call (EL.cons (E.var rfl) (EL.cons (E.var rfl) EL.nil)) rfl (hc o s w) rfl) rfl) (blt_any _ _))) (fun h => ?_) fun h => ?_
    · rw [List.filter_append, show [s].filter (topB l) = [s] by simp [topB]; simpa using h]
      have := hf pre hp
      refine ES.flat (ES.next (ES.app rfl (E.var rfl) rfl (by simp; omega)) (ES.nils ?_))
      rw [show lstS (pre.filter (topB l) ++ [s]) = .lst ((pre.filter (topB l)).map tupI ++ [tupI s]) by simp [lstS]]
      exact ES.nil
    · rw [List.filter_append, show [s].filter (topB l) = [] by simp [topB]; simpa using h, List.append_nil]
      exact ES.nils ES.nil
  · rintro env' ⟨s2, rfl⟩
    exact ES.retL (E.blt (E.sortk (l := l.filter (topB l)) (e' := tupI) (kd := keyD) (E.ovar rfl) rfl (fun a _ => Enc.shp 8 a (by decide)) (fun a _ => hk a []) (sort_keys _ (by have := hf l (Nat.le_refl _); omega))) rfl) rfl rfl
theorem cmp_key_lt (a b : (List Int)) : cmpD .lt (keyD a) (keyD b) = some (kLt a b) := by
  have h1 : eqOk (keyD a) (keyD b) = true := by simp [eqOk, sh_keyD]
  have h2 : alks [.int a.length, tupI a] [.int b.length, tupI b] = true := by have := alk_keyD a b; simpa [keyD, alk] using this
  show (if eqOk (keyD a) (keyD b) && alks [.int a.length, tupI a] [.int b.length, tupI b] then some (ltDs [.int a.length, tupI a] [.int b.length, tupI b]) else none) = _
  rw [h1, h2]
  have := ltD_keyD a b
  rw [keyD, keyD, ltD] at this
  simp [this]
/-- a complex -/
def goodB (fs : List (List Int)) : Bool := !decide (fs = []) && fs.all simB && ascB kLt fs && decide (maxi fs = fs) && decide ((clo fs).length ≤ 60)
theorem simB_len {s : (List Int)} (h : simB s = true) : 1 ≤ s.length ∧ s.length ≤ 4 := by simp [simB] at h; omega
theorem is_good_ok {fc fa fx fm fk g : Nat} (hg : T.gv g = some (.int 60)) (hx : ∀ s : (List Int), Gives T fx [tupI s] (.bl (simB s))) (hk : ∀ s, Gives T fk [tupI s] (keyD s)) (ha : ∀ l : List (List Int), Gives T fa [.lst (l.map keyD)] (.bl (ascB kLt l)))
    (hm : ∀ l : List (List Int), l.length ≤ 1000000 → Gives T fm [tupS l] (tupS (maxi l))) (hc : ∀ l : List (List Int), (∀ s ∈ l, s.length ≤ 4) → l.length ≤ 1000000 → Gives T fc [tupS l] (tupS (clo l))) (l : List (List Int)) (hz : l.length ≤ 1000000) : Runs T (D_is_good fc fa fx fm fk g) [tupS l] (.bl (goodB l)) := fun w => by
  refine run_eq rfl (ES.ifR (E.or (E.not (E.blt (E.var rfl) rfl)) fun _ => E.or (E.cmp (E.var rfl) (E.tup EL.nil rfl) (cmp_eq (e := tupS) (by decide) l [])) fun _ => E.not (E.blt (E.lcA (l := l) (e' := tupI) (u := fun s => .bl (simB s)) (EI.iv (E.var rfl) rfl rfl) rfl fun s _ => Turn.all rfl (E.call (EL.cons (E.var rfl) EL.nil) rfl (hx s w) rfl) rfl) (blt_all _ _)))
    (fun _ => ES.retF E.bl rfl rfl) fun h => ES.nils (ES.ifR (E.or (E.not (E.call (EL.cons (E.lcA (l := l) (e' := tupI) (u := keyD) (EI.iv (E.var rfl) rfl rfl) rfl fun s _ => Turn.all rfl (E.call (EL.cons (E.var rfl) EL.nil) rfl (hk s w) rfl) rfl) EL.nil) rfl (ha l w) rfl)) fun _ => E.cmp (E.call (EL.cons (E.var rfl) EL.nil) rfl (hm l hz w) rfl) (E.var rfl) (cmp_ne (e := tupS) (by decide) _ _))
      (fun _ => ES.retF E.bl rfl rfl) fun _ => ES.nils (ES.retL (E.cmp (E.blt (E.call (EL.cons (E.var rfl) EL.nil) rfl (hc l ?_ hz w) rfl) rfl) (E.gl hg) rfl) rfl rfl))) ?_
  · intro s hs
    simp only [Bool.or_eq_false_iff, Bool.not_eq_false', List.all_eq_true] at h
    exact (simB_len (h.2.2 s hs)).2
  · simp only [goodB, List.length_map]
    have e1 : decide ((((clo l).length : Nat) : Int) ≤ 60) = decide ((clo l).length ≤ 60) := by simp; omega
    rw [e1]
    cases decide (l = []) <;> cases l.all simB <;> cases ascB kLt l <;> cases decide (maxi l = l) <;> simp
theorem check_complex_ok {c f : Nat} {d : D} (h : Gives T f [d] (.bl true)) : Runs T (D_check_complex c f) [d] .non := fun w =>
  run_end rfl (ES.if (E.not (E.call (EL.cons (E.var rfl) EL.nil) rfl (h w) rfl)) (fun h => by cases h) fun _ => ES.nils ES.nil)
theorem check_complex_no {c f : Nat} {d : D} (h : Gives T f [d] (.bl false)) : RunsX T (D_check_complex c f) [d] c := fun w =>
  run_exc rfl (ES.if (E.not (E.call (EL.cons (E.var rfl) EL.nil) rfl (h w) rfl)) (fun _ => ES.flat (ES.stop ES.rai nofun)) fun h => by cases h)
theorem is_complex_ok {f : Nat} {d : D} {b : Bool} (h : Gives T f [d] (.bl b)) : Runs T (D_is_complex f) [d] (.bl b) := fun w =>
  run_ret rfl (ES.retL (E.call (EL.cons (E.var rfl) EL.nil) rfl (h w) rfl) rfl rfl)
theorem simplices_ok {f fc : Nat} {d r : D} (h : Gives T f [d] .non) (hc : Gives T fc [d] r) : Runs T (D_simplices f fc) [d] r := fun w =>
  run_ret rfl (ES.next (ES.ex (E.call (EL.cons (E.var rfl) EL.nil) rfl (h w) rfl)) (ES.retL (E.call (EL.cons (E.var rfl) EL.nil) rfl (hc w) rfl) rfl rfl))
theorem generated_ok {c1 c2 fc fx fm g : Nat} (hg : T.gv g = some (.int 60)) (hx : ∀ s : (List Int), Gives T fx [tupI s] (.bl (simB s))) (hm : ∀ l : List (List Int), l.length ≤ 1000000 → Gives T fm [tupS l] (tupS (maxi l))) (hc : ∀ l : List (List Int), (∀ s ∈ l, s.length ≤ 4) → l.length ≤ 1000000 → Gives T fc [tupS l] (tupS (clo l)))
    (l : List (List Int)) (hz : l.length ≤ 1000000) (h0 : l ≠ []) (hs : ∀ s ∈ l, simB s = true) (h60 : (clo l).length ≤ 60) : Runs T (D_generated c1 c2 fc fx fm g) [tupS l] (tupS (maxi (clo l))) := fun w => by
  have e1 : l.all simB = true := List.all_eq_true.mpr hs
  refine run_ret rfl (ES.if (E.or (E.not (E.blt (E.var rfl) rfl)) fun _ => E.or (E.cmp (E.var rfl) (E.tup EL.nil rfl) (cmp_eq (e := tupS) (by decide) l [])) fun _ => E.not (E.blt (E.lcA (l := l) (e' := tupI) (u := fun s => .bl (simB s)) (EI.iv (E.var rfl) rfl rfl) rfl fun s _ => Turn.all rfl (E.call (EL.cons (E.var rfl) EL.nil) rfl (hx s w) rfl) rfl) (blt_all _ _)))
    (fun h => by simp [h0, e1] at h) fun _ => ES.nils (ES.asgF (E.call (EL.cons (E.var rfl) EL.nil) rfl (hc l (fun s h => (simB_len (hs s h)).2) hz w) rfl) rfl rfl
      (ES.if (E.cmp (E.blt (E.var rfl) rfl) (E.gl hg) rfl) (fun h => ?_) fun _ => ES.nils (ES.retL (E.call (EL.cons (E.var rfl) EL.nil) rfl (hm (clo l) (by omega) w) rfl) rfl rfl))))
  exfalso
  simp at h
  omega
/-! ### numbers -/
theorem dimension_of_ok {fs : List (List Int)} {s : (List Int)} (h : fs.getLast? = some s) : Runs T D_dimension_of [tupS fs] (.int (s.length - 1)) := fun w => by
  have e : L2.atI (fs.map tupI) (-1) = some (tupI s) := by
    obtain ⟨ys, rfl⟩ := List.getLast?_eq_some_iff.mp h
    rw [List.map_append]
    exact L2.atI_last _ _
  refine run_eq rfl (ES.retL (E.bin (k2 := .val) (E.blt (E.idx (z := tupI s) (E.var rfl) (E.neg E.int) e) rfl) E.int rfl) rfl rfl) (by simp)
/-- how many have the sizes 1, 2, .. -/
def cntsOf (n : Nat) (ss : List (List Int)) : List Int := (List.range n).map fun i => (((ss.filter fun s => decide (s.length = i + 1)).length : Nat) : Int)
theorem beq_eq_decide' {α : Type} [DecidableEq α] (a b : α) : (a == b) = decide (a = b) := by by_cases h : a = b <;> simp [h]
theorem count_map {α : Type} [DecidableEq α] {e : α → D} {n : Nat} [Enc e n] (h : n ≤ 7) (a : α) (l : List α) : mthD .count (.lst (l.map e)) (e a) = some (.int (l.count a : Nat)) := by
  have h2 := (encLst (e := e)).shp 8 l (by omega)
  simp only [mthD]
  rw [Enc.shp 7 a h, h2]
  simp only [Bool.and_self, if_true, List.filter_map, List.length_map]
  congr 2
  rw [List.count_eq_length_filter]
  congr 1
  congr 1
  refine List.filter_congr fun b _ => ?_
  simp only [Function.comp, Enc.eq]
  exact (beq_eq_decide' b a).symm
theorem counts_of_ok {fd : Nat} {fs ss : List (List Int)} {k : Nat} (hk : k ≤ 1000) (hd : Gives T fd [tupS fs] (.int k)) : Runs T (D_counts_of fd) [tupS fs, tupS ss] (.tup ((cntsOf (k + 1) ss).map .int)) := fun w => by
  refine run_eq rfl (ES.asgF (E.lcA (l := ss) (e' := tupI) (u := fun s => .int (s.length : Nat)) (EI.iv (E.var rfl) rfl rfl) rfl fun s _ => Turn.all rfl (E.blt (k2 := .val) (E.var rfl) ?_) rfl) rfl rfl
    (ES.retL (E.blt (k2 := .val) (E.lcA (l := List.range (k + 1)) (e' := fun i => .int (1 + (i : Nat))) (u := fun i => .int (((ss.map fun s => (s.length : Int)).count (1 + (i : Nat) : Int) : Nat))) (EI.ir (EL.cons E.int (EL.cons (E.bin (E.call (EL.cons (E.var rfl) EL.nil) rfl (hd w) rfl) E.int rfl) EL.nil)) ?_) rfl fun i _ => Turn.all rfl (E.mth (xs := ss.map fun s => .int (s.length : Nat)) (E.var rfl) (E.var rfl) ?_) rfl) rfl) rfl rfl)) ?_
  · simp [tupI, bltD]
  · simp only [rangeD]
    rw [if_pos (by omega)]
    congr 2
    rw [show ((k : Int) + 2 - 1).toNat = k + 1 by omega]
  · have := count_map (e := D.int) (by decide) (1 + (i : Nat) : Int) (ss.map fun s => (s.length : Int))
    rw [List.map_map] at this
    exact this
  · unfold cntsOf
    rw [List.map_map]
    congr 1
    refine List.map_congr_left fun i _ => ?_
    simp only [Function.comp]
    congr 2
    rw [List.count_eq_length_filter, List.filter_map, List.length_map]
    congr 1
    refine List.filter_congr fun s _ => ?_
    simp only [Function.comp, beq_eq_decide']
    rw [decide_eq_decide]
    omega
theorem counts_ok {f fc fn : Nat} {d d2 r : D} (h : Gives T f [d] .non) (hc : Gives T fc [d] d2) (hn : Gives T fn [d, d2] r) : Runs T (D_counts f fc fn) [d] r := fun w =>
  run_ret rfl (ES.next (ES.ex (E.call (EL.cons (E.var rfl) EL.nil) rfl (h w) rfl)) (ES.retL (E.call (EL.cons (E.var rfl) (EL.cons (E.call (EL.cons (E.var rfl) EL.nil) rfl (hc w) rfl) EL.nil)) rfl (hn w) rfl) rfl rfl))
/-- the alternating sum -/
def altG : Nat → List Int → Int
  | _, [] => 0
  | i, n :: l => (if i % 2 = 0 then n else -n) + altG (i + 1) l
def altB (l : List Int) : Int := altG 0 l
theorem alt_sum : ∀ (l : List Int) (i : Nat), ((l.zipIdx i).map fun p => if p.2 % 2 = 0 then p.1 else -p.1).sum = altG i l
  | [], i => rfl
  | n :: l, i => by simp only [List.zipIdx_cons, List.map_cons, List.sum_cons, alt_sum l, altG]
theorem enum2_map {α : Type} (e : α → D) (l : List α) : enum2 (l.map e) = l.zipIdx.map fun p => D.tup [.int (p.2 : Nat), e p.1] := by
  unfold enum2
  rw [List.zipIdx_map, List.map_map]
  rfl
theorem blt_sum {α : Type} (f : α → Int) (l : List α) : bltD .sum (.lst (l.map fun a => D.int (f a))) = some (.val, .int (l.map f).sum) := by simp [bltD, intsD_fn]
end
end R
end
section
set_option Elab.async false
set_option linter.all false
/-! MC3: alternating sums, faces, cofaces, components. -/
namespace R
open PySem
section
variable {T : Tab}
theorem alt_map (l : List Int) : (l.zipIdx.map fun p => if (decide (((p.2 : Nat) : Int) % 2 = 0)) = true then p.1 else -p.1).sum = altB l := by
  rw [show altB l = altG 0 l from rfl, ← alt_sum l 0]
  congr 1
  refine List.map_congr_left fun p _ => ?_
  have : decide (((p.2 : Nat) : Int) % 2 = 0) = decide (p.2 % 2 = 0) := by rw [decide_eq_decide]; omega
  rw [this]
  by_cases h : p.2 % 2 = 0 <;> simp [h]
theorem euler_of_ok (l : List Int) : Runs T D_euler_of [.tup (l.map .int)] (.int (altB l)) := fun w => by
  refine run_eq rfl (ES.retL (E.blt (E.lcA (l := l.zipIdx) (e' := fun p => .tup [.int (p.2 : Nat), .int p.1]) (u := fun p => .int (if decide (((p.2 : Nat) : Int) % 2 = 0) then p.1 else -p.1)) (EI.ie (EL.cons (E.var rfl) EL.nil) (congrArg some (enum2_map D.int l))) rfl fun p _ => Turn.all rfl (k := .val) ?_ rfl) (blt_sum _ _)) rfl rfl) ?_
  · have := E.ite (T := T) (x := .int p.1) (y := .int (-p.1)) (env := [.val (.tup (l.map .int)), .val (.int (p.2 : Nat)), .val (.int p.1)]) (E.cmp (w1 := w) (w := w) (E.bin (o := .mod) (k2 := .val) (E.var (i := 1) rfl) (E.int (i := 2)) rfl) (E.int (i := 0)) (o := .eq) (cmp_eq (e := D.int) (by decide) _ _)) (fun _ => E.var (i := 2) rfl) fun _ => E.neg (E.var (i := 2) rfl)
    rw [apply_ite D.int]
    exact this
  · rw [alt_map]
theorem euler_ok {f fc fn fe : Nat} {d d2 d3 r : D} (h : Gives T f [d] .non) (hc : Gives T fc [d] d2) (hn : Gives T fn [d, d2] d3) (he : Gives T fe [d3] r) : Runs T (D_euler f fc fn fe) [d] r := fun w =>
  run_ret rfl (ES.next (ES.ex (E.call (EL.cons (E.var rfl) EL.nil) rfl (h w) rfl)) (ES.retL (E.call (EL.cons (E.call (EL.cons (E.var rfl) (EL.cons (E.call (EL.cons (E.var rfl) EL.nil) rfl (hc w) rfl) EL.nil)) rfl (hn w) rfl) EL.nil) rfl (he w) rfl) rfl rfl))
/-! ### faces -/
def facesL (s : (List Int)) : List (List Int) := if s.length = 1 then [] else srt sLt ((List.range s.length).map fun i => s.eraseIdx i)
theorem cutS_to (k : Nat) (s : (List Int)) : slcD (tupI s) none (some (k : Int)) = some (.val, tupI (s.take k)) := by
  show some (Kd.val, D.tup (cutD (s.map D.int) none (some (k : Int)))) = _
  rw [cut_to, ← List.map_take]; rfl
theorem cutS_from (k : Nat) (s : (List Int)) : slcD (tupI s) (some (k : Int)) none = some (.val, tupI (s.drop k)) := by
  show some (Kd.val, D.tup (cutD (s.map D.int) (some (k : Int)) none)) = _
  rw [cut_from, ← List.map_drop]; rfl
theorem addS (a b : (List Int)) (h : a.length + b.length ≤ 16777216) : binD .add (tupI a) (tupI b) = some (.val, tupI (a ++ b)) := by
  show binD .add (.tup (a.map .int)) (.tup (b.map .int)) = _
  rw [add_tup _ _ (by simpa using h)]
  simp [tupI]
theorem faces_of_ok {s : (List Int)} (hs : s.length ≤ 1000) : Runs T D_faces_of [tupI s] (tupS (facesL s)) := fun w => by
  refine run_eq rfl (ES.ifR (E.cmp (E.blt (E.var rfl) rfl) E.int (cmp_eq (e := D.int) (by decide) _ _)) (fun _ => ES.retF (E.tup EL.nil rfl) rfl rfl) fun h => ES.nils (ES.retL (E.blt (k2 := .val) (z := tupS (srt sLt ((List.range s.length).map fun i => s.eraseIdx i))) (E.blt (k2 := .own) (z := lstS (srt sLt ((List.range s.length).map fun i => s.eraseIdx i))) (E.lcA (l := List.range s.length) (e' := fun i => .int (i : Nat)) (u := fun i => tupI (s.eraseIdx i))
    (EI.ir (EL.cons (E.blt (k2 := .val) (z := .int (s.length : Nat)) (E.var rfl) (by simp [tupI, bltD])) EL.nil) ?_) rfl fun i _ => Turn.all rfl (E.bin (k2 := .val) (E.slce_to (E.var rfl) rfl (E.var rfl) (cutS_to i s)) (E.slce_from (E.var rfl) rfl (E.bin (k2 := .val) (E.var rfl) E.int rfl) (cutS_from (i + 1) s)) ?_) rfl) ?_) rfl) rfl rfl)) ?_
  · simp only [rangeD, Int.toNat_natCast]
    rw [if_pos (by omega)]
  · rw [addS _ _ (by simp; omega), List.eraseIdx_eq_take_drop_succ]
  · have hn : ∀ x ∈ (List.range s.length).map (fun i => s.eraseIdx i), x ≠ [] := fun x hx e => by
      obtain ⟨i, hi, rfl⟩ := List.mem_map.mp hx
      have hi := List.mem_range.mp hi
      have hl := congrArg List.length e
      rw [List.length_eraseIdx_of_lt hi] at hl
      simp at h hl
      omega
    have := sort_tups _ hn (by simp; omega)
    have e : ((List.range s.length).map fun i => tupI (s.eraseIdx i)) = ((List.range s.length).map fun i => s.eraseIdx i).map tupI := by rw [List.map_map]; rfl
    simp only [bltD]
    rw [e, this]; rfl
  · simp only [facesL, List.length_map]
    by_cases h : s.length = 1
    · have : (((s.length : Nat) : Int) = 1) := by omega
      simp [h, tupS]
    · have : ¬ (((s.length : Nat) : Int) = 1) := by omega
      simp [h, this]
theorem faces_ok {c ff fx : Nat} {s : (List Int)} (hx : Gives T fx [tupI s] (.bl true)) (hf : Gives T ff [tupI s] (tupS (facesL s))) : Runs T (D_faces c ff fx) [tupI s] (tupS (facesL s)) := fun w =>
  run_ret rfl (ES.if (E.not (E.call (EL.cons (E.var rfl) EL.nil) rfl (hx w) rfl)) (fun h => by cases h) fun _ => ES.nils (ES.retL (E.call (EL.cons (E.var rfl) EL.nil) rfl (hf w) rfl) rfl rfl))
def cofL (every : List (List Int)) (s : (List Int)) : List (List Int) := every.filter fun o => memB s (facesL o)
theorem cofaces_of_ok {ff : Nat} (hf : ∀ s : (List Int), s.length ≤ 1000 → Gives T ff [tupI s] (tupS (facesL s))) {every : List (List Int)} (he : ∀ s ∈ every, s.length ≤ 4) (s : (List Int)) : Runs T (D_cofaces_of ff) [tupS every, tupI s] (tupS (cofL every s)) := fun w =>
  run_ret rfl (ES.retL (E.blt (E.lc (l := every) (e' := tupI) (pr := fun o => memB s (facesL o)) (u := tupI) (EI.iv (E.var rfl) rfl rfl) rfl fun o ho => Turn.mk' (k := .val) rfl (E.cmp (E.var rfl) (E.call (EL.cons (E.var rfl) EL.nil) rfl (hf o (by have := he o ho; omega) w) rfl) (cmp_in_tup (e := tupI) (by decide) s _)) fun _ => ⟨E.var rfl, rfl⟩) rfl) rfl rfl)
theorem cofaces_ok {c f fc fo fx : Nat} {every : List (List Int)} {d : D} {s : (List Int)} (h : Gives T f [d] .non) (hc : Gives T fc [d] (tupS every)) (hx : Gives T fx [tupI s] (.bl true)) (hs : s ∈ every) (ho : Gives T fo [tupS every, tupI s] (tupS (cofL every s))) : Runs T (D_cofaces c f fc fo fx) [d, tupI s] (tupS (cofL every s)) := fun w =>
  run_ret rfl (ES.next (ES.ex (E.call (EL.cons (E.var rfl) EL.nil) rfl (h w) rfl)) (ES.asgF (E.call (EL.cons (E.var rfl) EL.nil) rfl (hc w) rfl) rfl rfl
    (ES.if (E.or (E.not (E.call (EL.cons (E.var rfl) EL.nil) rfl (hx w) rfl)) fun _ => E.cmp (E.var rfl) (E.var rfl) (cmp_notin_tup (e := tupI) (by decide) s every)) (fun h => by simp [hs, memB] at h) fun _ => ES.nils (ES.retL (E.call (EL.cons (E.var rfl) (EL.cons (E.var rfl) EL.nil)) rfl (ho w) rfl) rfl rfl))))
theorem cofaces_no {c f fc fo fx : Nat} {every : List (List Int)} {d e : D} {b : Bool} (h : Gives T f [d] .non) (hc : Gives T fc [d] (tupS every)) (hx : Gives T fx [e] (.bl b)) (hs : b = true → ∃ s, e = tupI s ∧ s ∉ every) : RunsX T (D_cofaces c f fc fo fx) [d, e] c := fun w =>
  run_exc rfl (ES.next (ES.ex (E.call (EL.cons (E.var rfl) EL.nil) rfl (h w) rfl)) (ES.asgF (E.call (EL.cons (E.var rfl) EL.nil) rfl (hc w) rfl) rfl rfl
    (ES.if (p := true) (by
      cases b with
      | false => exact E.or (p := true) (q := true) (E.not (p := false) (E.call (EL.cons (E.var rfl) EL.nil) rfl (hx w) rfl)) fun h => by cases h
      | true =>
        obtain ⟨s, rfl, hn⟩ := hs rfl
        have := E.or (T := T) (p := false) (q := !memB s every) (env := [.val d, .val (tupI s), .val (tupS every)]) (w := w) (w1 := w) (a := .not (.call fx (.cons (.var 1) .nil))) (b := .cmp .notin (.var 1) (.var 2)) (E.not (p := true) (E.call (EL.cons (E.var rfl) EL.nil) rfl (hx w) rfl)) fun _ => E.cmp (E.var rfl) (E.var rfl) (cmp_notin_tup (e := tupI) (by decide) s every)
        rw [show (false || !memB s every) = true by simp [hn, memB]] at this; exact this) (fun _ => ES.flat (ES.stop ES.rai nofun)) fun h => by cases h)))
/-! ### components -/
def compStep (gs : List (List Int)) (s : (List Int)) : List (List Int) :=
  let near := gs.filter fun g => s.any fun v => memB v g
  gs.filter (fun g => !memB g near) ++ [sset iLt (near.flatten ++ s)]
def comps (ss : List (List Int)) : List (List Int) := ss.foldl compStep []
theorem comps_snoc (ss : List (List Int)) (s : (List Int)) : comps (ss ++ [s]) = compStep (comps ss) s := by simp [comps]
/-- all below 8, from 0 on -/
def InV (s : (List Int)) : Prop := ∀ v ∈ s, 0 ≤ v ∧ v ≤ 7
theorem sset_len8 {s : (List Int)} (h : InV s) : (sset iLt s).length ≤ 8 := by
  have := nodup_len_le (l := sset iLt s) (m := (List.range 8).map fun i : Nat => (i : Int)) ((sset_asc so_iLt s).nodup so_iLt) fun x hx => by
    have := h x (mem_sset.mp hx)
    refine List.mem_map.mpr ⟨x.toNat, List.mem_range.mpr (by omega), by omega⟩
  simpa using this
/-- what the groups are: ascending, of at most 8 -/
structure GrOk (n : Nat) (gs : List (List Int)) : Prop where
  len : gs.length ≤ n
  vs : ∀ g ∈ gs, InV g
  l8 : ∀ g ∈ gs, g.length ≤ 8
  ne : ∀ g ∈ gs, g ≠ []
theorem GrOk.step {n : Nat} {gs : List (List Int)} {s : (List Int)} (h : GrOk n gs) (hs : InV s) (h0 : s ≠ []) : GrOk (n + 1) (compStep gs s) := by
  have near : ∀ v ∈ (gs.filter fun g => s.any fun v => memB v g).flatten ++ s, 0 ≤ v ∧ v ≤ 7 := fun v hv => by
    rcases List.mem_append.mp hv with hv | hv
    · obtain ⟨g, hg, hv⟩ := List.mem_flatten.mp hv
      exact h.vs g (List.mem_filter.mp hg).1 v hv
    · exact hs v hv
  refine ⟨?_, fun g hg => ?_, fun g hg => ?_, fun g hg => ?_⟩
  · unfold compStep
    have := List.length_filter_le (fun g => !memB g (gs.filter fun g => s.any fun v => memB v g)) gs
    have := h.len
    simp only [List.length_append, List.length_cons, List.length_nil]
    omega
  all_goals
    rcases List.mem_append.mp hg with hg | hg
  · exact h.vs g (List.mem_filter.mp hg).1
  · simp at hg; subst hg; exact fun v hv => near v (mem_sset.mp hv)
  · exact h.l8 g (List.mem_filter.mp hg).1
  · simp at hg; subst hg; exact sset_len8 near
  · exact h.ne g (List.mem_filter.mp hg).1
  · simp at hg; subst hg
    intro e
    cases s with
    | nil => exact h0 rfl
    | cons v s =>
      have : v ∈ sset iLt ((gs.filter fun g => (v :: s).any fun v => memB v g).flatten ++ v :: s) := mem_sset.mpr (by simp)
      rw [e] at this
      cases this
theorem GrOk.flat {n : Nat} {gs : List (List Int)} (h : GrOk n gs) (p : (List Int) → Bool) : (gs.filter p).flatten.length ≤ 8 * n := by
  have gen : ∀ l : List (List Int), (∀ g ∈ l, g.length ≤ 8) → l.flatten.length ≤ 8 * l.length := by
    intro l
    induction l with
    | nil => intro _; simp
    | cons g l ih => intro h; have := ih fun x hx => h x (List.mem_cons_of_mem _ hx); have := h g List.mem_cons_self; simp at *; omega
  have h1 := gen (gs.filter p) fun g hg => h.l8 g (List.mem_filter.mp hg).1
  have h2 := List.length_filter_le p gs
  have := h.len
  omega
theorem grok_comps : ∀ {ss : List (List Int)}, (∀ s ∈ ss, InV s ∧ s ≠ []) → GrOk ss.length (comps ss) := fun {ss} => by
  have gen : ∀ (post pre : List (List Int)), (∀ s ∈ post, InV s ∧ s ≠ []) → GrOk pre.length (comps pre) → GrOk (pre ++ post).length (comps (pre ++ post)) := by
    intro post
    induction post with
    | nil => intro pre _ h; simpa using h
    | cons s post ih =>
      intro pre h g
      have := ih (pre ++ [s]) (fun x hx => h x (List.mem_cons_of_mem _ hx)) (by
        rw [comps_snoc]
        have := g.step (h s List.mem_cons_self).1 (h s List.mem_cons_self).2
        simpa using this)
      simpa using this
  intro h
  simpa using gen ss [] h ⟨by simp [comps], by simp [comps], by simp [comps], by simp [comps]⟩
theorem sortset_ints (l : List Int) (h : l.length ≤ 1000) : bltD .sortSet (.lst (l.map .int)) = some (.own, lstI (sset iLt l)) := by
  have h2 : (dd l).length ≤ l.length := nodup_len_le (nodup_ddR l) fun x hx => mem_ddR.mp hx
  simp only [bltD, setD_ints l h, Option.bind_some]
  rw [sort_ints _ (by omega)]; rfl
theorem flat_map (l : List (List Int)) : l.flatMap (fun g => g.map D.int) = l.flatten.map D.int := by
  induction l with
  | nil => rfl
  | cons g l ih => simp [ih]
theorem components_of_ok {fs : List (List Int)} (hs : ∀ s ∈ fs, InV s ∧ s ≠ [] ∧ s.length ≤ 8) (hz : fs.length ≤ 100) : Runs T D_components_of [tupS fs] (tupS (srt sLt (comps fs))) := fun w => by
  have gr : ∀ pre post, fs = pre ++ post → GrOk pre.length (comps pre) := fun pre post e => grok_comps fun s h => ⟨(hs s (by rw [e]; simp [h])).1, (hs s (by rw [e]; simp [h])).2.1⟩
  refine run_ret rfl (ES.asgF (E.lst EL.nil rfl) rfl rfl (ES.for (l := fs) (e' := tupI) (fun pre env => ∃ s2 s3 s4, env = [.val (tupS fs), .val (.lst ((comps pre).map lstI)), s2, s3, s4, .no, .no]) (EI.iv (E.var rfl) rfl rfl) ⟨.no, .no, .no, rfl⟩ ?_ ?_))
  · rintro pre s post env e ⟨s2, s3, s4, rfl⟩
    have g := gr pre (s :: post) e
    have hp : pre.length ≤ 100 := by rw [e] at hz; simp at hz; omega
    obtain ⟨v1, v2, v3⟩ := hs s (by rw [e]; simp)
    have hl := g.len
    refine ⟨_, _, rfl, ES.asgF (E.lc (l := comps pre) (e' := lstI) (pr := fun g => s.any fun v => memB v g) (u := lstI) (EI.iv (E.var rfl) rfl rfl) rfl fun g _ => Turn.mk' (k := .val) rfl (E.blt (E.lcA (l := s) (e' := D.int) (u := fun v => .bl (memB v g)) (EI.iv (E.var rfl) rfl rfl) rfl fun v _ => Turn.all rfl (E.cmp (E.var rfl) (E.var rfl) (cmp_in_lst (by decide) v g)) rfl) (blt_any _ _)) fun _ => ⟨E.var rfl, rfl⟩) rfl rfl
      (ES.asgF (E.blt (k2 := .own) (z := lstI (sset iLt (((comps pre).filter fun g => s.any fun v => memB v g).flatten ++ s))) (E.bin (k2 := .own) (z := .lst ((((comps pre).filter fun g => s.any fun v => memB v g).flatten ++ s).map .int)) (E.lc2 (l := (comps pre).filter fun g => s.any fun v => memB v g) (e' := lstI) (us := fun g => g.map .int) (EI.iv (E.var rfl) rfl rfl) rfl (fun g _ => ⟨_, .val, true, rfl, E.bl, nofun, fun _ => ⟨rfl, _, EI.iv (E.var rfl) rfl rfl, lcLoop_all (T := T) (l := g) (vs := [6]) (tg := .one 6) (c := .bl true) (e := .var 6) (w := w) (e' := D.int) (u := D.int) fun v _ => Turn.all rfl (E.var rfl) rfl⟩⟩) ?_) (E.blt (k2 := .own) (z := .lst (s.map .int)) (E.var rfl) rfl) ?_) ?_) rfl rfl
      (ES.asgF (E.bin (k2 := .own) (E.lc (l := comps pre) (e' := lstI) (pr := fun g => !memB g ((comps pre).filter fun g => s.any fun v => memB v g)) (u := lstI) (EI.iv (E.var rfl) rfl rfl) rfl fun g _ => Turn.mk' (k := .val) rfl (E.cmp (E.var rfl) (E.var rfl) (cmp_notin_lst (by decide) g _)) fun _ => ⟨E.var rfl, rfl⟩) (E.lst (EL.cons (E.var rfl) EL.nil) rfl) (add_lst _ _ ?_)) rfl rfl ES.nil)), .val (tupI s), .val (.lst (((comps pre).filter fun g => s.any fun v => memB v g).map lstI)), .val (lstI (sset iLt (((comps pre).filter fun g => s.any fun v => memB v g).flatten ++ s))), ?_⟩
    · rw [flat_map, List.length_map]
      have := g.flat fun g => s.any fun v => memB v g
      omega
    · rw [flat_map, add_lst]
      · rw [← List.map_append]
      · have := g.flat fun g => s.any fun v => memB v g
        simp only [List.length_map]
        omega
    · refine sortset_ints _ ?_
      have := g.flat fun g => s.any fun v => memB v g
      simp only [List.length_append]
      omega
    · have := List.length_filter_le (fun g => !memB g ((comps pre).filter fun g => s.any fun v => memB v g)) (comps pre)
      simp only [List.length_map, List.length_cons, List.length_nil]
      omega
    · rw [comps_snoc, compStep, List.map_append]
      rfl
  · rintro env' ⟨s2, s3, s4, rfl⟩
    have g := gr fs [] (by simp)
    have hl := g.len
    refine ES.retL (E.blt (k2 := .val) (E.blt (k2 := .own) (z := lstS (srt sLt (comps fs))) (E.lcA (l := comps fs) (e' := lstI) (u := tupI) (EI.iv (E.var rfl) rfl rfl) rfl fun g _ => Turn.all rfl (E.blt (k2 := .val) (E.var rfl) rfl) rfl) ?_) rfl) rfl rfl
    simp only [bltD]
    rw [sort_tups _ (fun s h => g.ne s h) (by omega)]
    rfl
theorem components_ok {f fo : Nat} {d r : D} (h : Gives T f [d] .non) (ho : Gives T fo [d] r) : Runs T (D_components f fo) [d] r := fun w =>
  run_ret rfl (ES.next (ES.ex (E.call (EL.cons (E.var rfl) EL.nil) rfl (h w) rfl)) (ES.retL (E.call (EL.cons (E.var rfl) EL.nil) rfl (ho w) rfl) rfl rfl))
end
end R
end
section
set_option Elab.async false
set_option linter.all false
/-! MC4: the laws' own helpers: drawing numbers and complexes. -/
namespace R
open PySem
section
variable {T : Tab}
/-! ### worlds that change -/
theorem run_retW {d : Df} {ds : List D} {r : D} {w w' : Wd} {k : Kd} (hp : ds.length = d.pars) (hw : w'.length = w.length) (h : ES T d.body (startE d.slots ds) w (.ret k r w')) : runD T d ds w = some (.ok (k, r) w') := by
  unfold runD
  rw [if_pos hp, show evS T d.body (startE d.slots ds) w = _ from h]
  have : ∀ ds, trim w w' ds = w' := fun ds => by simp [trim, hw]
  simp [back, this]
/-- the turns of a comprehension that change the world: I tells it by the turn -/
theorem lc_fx {α : Type} {f : D → Wd → M (Option D)} {e : α → D} {Pd : D → Prop} (I : Nat → Wd → Prop) : ∀ {l : List α} {i : Nat} {w : Wd}, I i w → (∀ a ∈ l, ∀ i w, I i w → ∃ o w', f (e a) w = some (.ok o w') ∧ (∀ u, o = some u → Pd u) ∧ I (i + 1) w') →
    ∃ us w', lcLoop f (l.map e) w = some (.ok us w') ∧ (∀ u ∈ us, Pd u) ∧ I (i + l.length) w'
  | [], i, w, h, _ => ⟨[], w, rfl, by simp, h⟩
  | a :: l, i, w, h, k => by
    obtain ⟨o, w1, h1, h2, h3⟩ := k a List.mem_cons_self i w h
    obtain ⟨us, w2, h4, h5, h6⟩ := lc_fx (Pd := Pd) I (l := l) h3 fun b hb => k b (List.mem_cons_of_mem _ hb)
    have e6 : I (i + (a :: l).length) w2 := by rw [List.length_cons, show i + (l.length + 1) = i + 1 + l.length by omega]; exact h6
    cases o with
    | none => exact ⟨us, w2, by simp only [List.map_cons, lcLoop, h1, h4]; rfl, h5, e6⟩
    | some d =>
      refine ⟨d :: us, w2, by simp only [List.map_cons, lcLoop, h1, h4]; rfl, fun u hu => ?_, e6⟩
      rcases List.mem_cons.mp hu with rfl | hu
      · exact h2 _ rfl
      · exact h5 u hu
theorem for_fx {α : Type} {tg : Tg} {body : En → Wd → Option Out} {e : α → D} {l : List α} (R : List α → En → Wd → Prop) {env : En} {w : Wd} (h0 : R [] env w)
    (hs : ∀ pre a post env w, l = pre ++ a :: post → R pre env w → ∃ env1 env2 w2, bindTg tg (e a) env = some env1 ∧ body env1 w = some (.next env2 w2) ∧ R (pre ++ [a]) env2 w2) :
    ∃ env' w', forLoop tg body (l.map e) env w = some (.next env' w') ∧ R l env' w' := by
  have gen : ∀ (post pre : List α) (env : En) (w : Wd), l = pre ++ post → R pre env w → ∃ env' w', forLoop tg body (post.map e) env w = some (.next env' w') ∧ R l env' w' := by
    intro post
    induction post with
    | nil => intro pre env w h r; rw [List.append_nil] at h; subst h; exact ⟨env, w, rfl, r⟩
    | cons a post ih =>
      intro pre env w h r
      obtain ⟨env1, env2, w2, h1, h2, h3⟩ := hs pre a post env w h r
      obtain ⟨env', w', h4, h5⟩ := ih (pre ++ [a]) env2 w2 (by rw [h]; simp) h3
      exact ⟨env', w', by simp only [List.map_cons, forLoop, h1, h2]; exact h4, h5⟩
  exact gen l [] env w rfl h0
theorem ES.forW {α : Type} {tg : Tg} {it : CE} {e' : α → D} {l : List α} {s : CS} {env : En} {w w1 : Wd} (R : List α → En → Wd → Prop) (hi : EI T it env w (l.map e') w1) (h0 : R [] (frzI it env) w1)
    (hs : ∀ pre a post env w, l = pre ++ a :: post → R pre env w → ∃ env1 env2 w2, bindTg tg (e' a) env = some env1 ∧ ES T s env1 w (.next env2 w2) ∧ R (pre ++ [a]) env2 w2) : ∃ env' w', ES T (.for tg it s) env w (.next env' w') ∧ R l env' w' := by
  obtain ⟨env', w', h1, h2⟩ := for_fx (body := evS T s) R h0 hs
  refine ⟨env', w', ?_, h2⟩
  show evS T (.for tg it s) env w = _
  rw [evS, show evI T it env w = _ from hi]
  exact h1
/-! ### a town of numbers -/
/-- the script's town behind k draws -/
def Town (ns : List Int) (k : Nat) (w : Wd) : Prop := ∃ cs : List Int, w = [.lst ((((k : Nat) : Int) :: cs).map .int)] ∧ cs.length = ns.length
theorem Town.len {ns : List Int} {k : Nat} {w : Wd} (h : Town ns k w) : w.length = 1 := by obtain ⟨cs, rfl, _⟩ := h; rfl
theorem town_ok (ns : List Int) (hz : ns.length ≤ 1000) : RunsO T D_law_town [lstI ns] (.lst (((0 : Int) :: ns).map .int)) := fun w =>
  run_ret rfl (ES.retL (E.bin (k2 := .own) (E.lst (EL.cons E.int EL.nil) rfl) (E.blt (E.var rfl) rfl) (by rw [add_lst _ _ (by simp; omega)]; rfl)) rfl rfl)
/-- a draw below lim -/
def Draws (T : Tab) (f : Nat) : Prop := ∀ (ns : List Int) (k : Nat) (w : Wd) (lim : Int), ns.length ≤ 1000 → k < 2 ^ 40 → 1 ≤ lim → lim < 2 ^ 30 → Town ns k w → ∃ r w', T.call f [lstI ns, .cell 0, .int lim] w = some (.ok (.val, .int r) w') ∧ 0 ≤ r ∧ r < lim ∧ Town ns (k + 1) w'
theorem idx_lst {xs : List D} {j : Nat} {d : D} (h : xs[j]? = some d) : idxD (.lst xs) (.int (j : Nat)) = some d := L2.atI_nat h
theorem put_lst {xs : List D} {j : Nat} {v : D} (h : j < xs.length) : putD (.lst xs) (.int (j : Nat)) v = some (.lst (xs.set j v)) := by
  show (L2.ixN xs.length (j : Nat)).map _ = _
  have : L2.ixN xs.length ((j : Nat) : Int) = some j := by
    unfold L2.ixN
    simp [h]
  rw [this]; rfl
theorem small_of {i : Int} (h : 0 ≤ i) (h2 : i < 2 ^ 64) : small i = true := by simp [small]; omega
theorem draw_ok {ns : List Int} {k : Nat} {w : Wd} {lim : Int} (hz : ns.length ≤ 1000) (hk : k < 2 ^ 40) (h1 : 1 ≤ lim) (h2 : lim < 2 ^ 30) (ht : Town ns k w) :
    ∃ r w', runD T D_law_draw [lstI ns, .cell 0, .int lim] w = some (.ok (.val, .int r) w') ∧ 0 ≤ r ∧ r < lim ∧ Town ns (k + 1) w' := by
  obtain ⟨cs, rfl, hc⟩ := ht
  have md : ∀ x : Int, 0 ≤ x % lim ∧ x % lim < lim := fun x => ⟨Int.emod_nonneg _ (by omega), Int.emod_lt_of_pos _ (by omega)⟩
  have mod_ok : ∀ x y : Int, 0 < y → binD .mod (.int x) (.int y) = some (.val, .int (x % y)) := fun x y h => by simp [binD, h]
  have div_ok : ∀ x y : Int, 0 < y → y < 1073741824 → binD .fdiv (.int x) (.int y) = some (.val, .int (x / y)) := fun x y h h' => by simp [binD, h, h']
  have mul_ok : ∀ x y : Int, small x = true → binD .mul (.int x) (.int y) = some (.val, .int (x * y)) := fun x y h => by simp [binD, h]
  have mul_ok2 : ∀ x y : Int, small y = true → binD .mul (.int x) (.int y) = some (.val, .int (x * y)) := fun x y h => by simp [binD, h]
  have sk : small (k + 1 : Int) = true := small_of (by omega) (by omega)
  have ec : ((k + 1 : Nat) : Int) = (k : Int) + 1 := by omega
  -- behind the first row
  have first : ∀ (s : CS) (o : Out), ES T s [.val (lstI ns), .val (.cell 0), .val (.int lim), .no, .no, .no] [.lst ((((k : Int) + 1) :: cs).map .int)] o → ES T (.cons (.cput (.var 1) (.int 0) (.bin .add (.rix (.var 1) (.int 0)) (.int 1))) s) (startE 6 [lstI ns, .cell 0, .int lim]) [.lst ((((k : Nat) : Int) :: cs).map .int)] o := fun s o h =>
    ES.next (ES.cput (n := 0) (cd := .lst ((((k : Nat) : Int) :: cs).map .int)) (cd' := .lst ((((k : Int) + 1) :: cs).map .int)) (E.bin (k2 := .val) (E.rix (n := 0) (E.var rfl) E.int rfl (idx_lst (j := 0) (d := .int k) rfl)) E.int rfl) rfl (E.var rfl) E.int rfl rfl (put_lst (j := 0) (by simp))) h
  have rd0 : ∀ {env : En}, env[1]? = some (.val (.cell 0)) → E T (.rix (.var 1) (.int 0)) env [.lst ((((k : Int) + 1) :: cs).map .int)] .val (.int (k + 1)) [.lst ((((k : Int) + 1) :: cs).map .int)] := fun h => E.rix (n := 0) (E.var h) E.int rfl (idx_lst (j := 0) (d := .int (k + 1)) rfl)
  have town : ∀ cs' : List Int, cs'.length = ns.length → Town ns (k + 1) [.lst ((((k : Int) + 1) :: cs').map .int)] := fun cs' h => ⟨cs', by rw [ec], h⟩
  by_cases hn : ns = []
  · refine ⟨_, [.lst ((((k : Int) + 1) :: cs).map .int)], run_retW rfl rfl (first _ _ (ES.if (p := true) (E.cmp (E.var rfl) (E.lst EL.nil rfl) ?_) (fun _ => ES.retF (E.bin (k2 := .val) (E.bin (k2 := .val) (E.bin (k2 := .val) (E.bin (k2 := .val) (rd0 rfl) (rd0 rfl) (mul_ok _ _ sk)) E.int (mul_ok2 _ _ rfl)) E.int (div_ok _ _ (by decide) (by decide))) (E.var rfl) (mod_ok _ _ (by omega))) rfl rfl) nofun)), (md _).1, (md _).2, town cs hc⟩
    have := cmp_eq (e := lstI) (by decide) ns []
    rw [show (D.lst [] : D) = lstI [] from rfl, this]; simp [hn]
  · have hl : 0 < ns.length := List.length_pos_iff.mpr hn
    -- the place
    have h0 : 0 ≤ ((k : Int) + 1) % (ns.length : Nat) := Int.emod_nonneg _ (by omega)
    have h3 : ((k : Int) + 1) % (ns.length : Nat) < (ns.length : Nat) := Int.emod_lt_of_pos _ (by omega)
    obtain ⟨at_, ha⟩ : ∃ j : Nat, ((k : Int) + 1) % (ns.length : Nat) = j := ⟨(((k : Int) + 1) % (ns.length : Nat)).toNat, by omega⟩
    have hat : at_ < ns.length := by omega
    have hac : at_ < cs.length := by omega
    have second : ∀ (s : CS) (o : Out), ES T s [.val (lstI ns), .val (.cell 0), .val (.int lim), .val (.int at_), .val (.int cs[at_]), .no] [.lst ((((k : Int) + 1) :: cs).map .int)] o → ES T (.cons (.ite (.cmp .eq (.var 0) (.lst .nil)) (.cons (.ret (.bin .mod (.bin .fdiv (.bin .mul (.bin .mul (.rix (.var 1) (.int 0)) (.rix (.var 1) (.int 0))) (.int 7)) (.int 3)) (.var 2))) .nil) .nil) (.cons (.asg (.one 3) (.bin .mod (.rix (.var 1) (.int 0)) (.blt .len (.var 0)))) (.cons (.frz 3) (.cons (.asg (.one 4) (.rix (.var 1) (.bin .add (.int 1) (.var 3)))) (.cons (.frz 4) s))))) [.val (lstI ns), .val (.cell 0), .val (.int lim), .no, .no, .no] [.lst ((((k : Int) + 1) :: cs).map .int)] o := fun s o h =>
      ES.if (p := false) (E.cmp (E.var rfl) (E.lst EL.nil rfl) (by have := cmp_eq (e := lstI) (by decide) ns []; rw [show (D.lst [] : D) = lstI [] from rfl, this]; simp [hn])) nofun fun _ => ES.nils
        (ES.asgF (E.bin (k2 := .val) (z := .int at_) (rd0 rfl) (E.blt (k2 := .val) (z := .int (ns.length : Nat)) (E.var rfl) (by simp [lstI, bltD])) (by rw [mod_ok _ _ (by omega), ha])) rfl rfl
          (ES.asgF (E.rix (n := 0) (z := .int cs[at_]) (E.var rfl) (E.bin (k2 := .val) (z := .int ((at_ + 1 : Nat) : Int)) E.int (E.var rfl) (by simp [binD]; omega)) rfl (idx_lst (by simp [hac]))) rfl rfl h))
    have scr : ∀ {env : En} {w : Wd}, env[0]? = some (.val (lstI ns)) → env[3]? = some (.val (.int at_)) → E T (.idx (.var 0) (.var 3)) env w .val (.int ns[at_]) w := fun h h' => E.idx (E.var h) (E.var h') (idx_lst (by simp [hat]))
    by_cases hb : decide ((10 : Int) ^ 18 ≤ ns[at_]) && decide (0 < cs[at_])
    · refine ⟨_, [.lst ((((k : Int) + 1) :: cs.set at_ (cs[at_] / lim)).map .int)], run_retW rfl rfl (first _ _ (second _ _ (ES.if (p := true) (k := .val) (w1 := [.lst ((((k : Int) + 1) :: cs).map .int)]) ?_ (fun _ => ES.flat (ES.next (ES.cput (n := 0) (w3 := [.lst ((((k : Int) + 1) :: cs).map .int)]) (cd := .lst ((((k : Int) + 1) :: cs).map .int)) (cd' := .lst ((((k : Int) + 1) :: cs.set at_ (cs[at_] / lim)).map .int)) (E.bin (k2 := .val) (E.var rfl) (E.var rfl) (div_ok _ _ (by omega) (by omega))) rfl (E.var rfl) (E.bin (k2 := .val) (z := .int ((at_ + 1 : Nat) : Int)) E.int (E.var rfl) (by simp [binD]; omega)) rfl rfl ?_)
          (ES.flat (ES.stop (ES.ret (E.bin (k2 := .val) (E.var rfl) (E.var rfl) (mod_ok _ _ (by omega))) rfl rfl) nofun)))) nofun))), (md _).1, (md _).2, town _ (by simpa using hc)⟩
      · have := E.and (T := T) (env := [.val (lstI ns), .val (.cell 0), .val (.int lim), .val (.int at_), .val (.int cs[at_]), .no]) (w := [.lst ((((k : Int) + 1) :: cs).map .int)]) (E.cmp (o := .ge) (scr rfl rfl) (E.bin (o := .pow) (k2 := .val) (z := .int (10 ^ 18)) (E.int (i := 10)) (E.int (i := 18)) rfl) rfl) fun _ => E.cmp (o := .gt) (E.var (i := 4) rfl) (E.int (i := 0)) rfl
        rw [hb] at this
        exact this
      · rw [put_lst (by simp [hac])]
        simp [List.map_set]
    · refine ⟨_, [.lst ((((k : Int) + 1) :: cs).map .int)], run_retW rfl rfl (first _ _ (second _ _ (ES.if (p := false) (k := .val) (w1 := [.lst ((((k : Int) + 1) :: cs).map .int)]) ?_ nofun fun _ => ES.nils
        (ES.asgF (E.bin (k2 := .val) (E.bin (k2 := .val) (scr rfl rfl) (E.bin (k2 := .val) E.int (rd0 rfl) (mul_ok _ _ rfl)) rfl) E.int (mod_ok _ _ (by decide))) rfl rfl
          (ES.asgF (E.bin (k2 := .val) (E.bin (k2 := .val) (z := .int (((ns[at_] + 104729 * ((k : Int) + 1)) % 4294967291) ^ 5)) (E.var rfl) E.int ?_) E.int (mod_ok _ _ (by decide))) rfl rfl
            (ES.retL (E.bin (k2 := .val) (E.bin (k2 := .val) (E.bin (k2 := .val) (E.bin (k2 := .val) (E.bin (k2 := .val) (E.bin (k2 := .val) (E.var rfl) E.int (div_ok _ _ (by decide) (by decide))) E.int (mul_ok2 _ _ rfl)) (E.var rfl) rfl) E.int (mod_ok _ _ (by decide))) E.int (div_ok _ _ (by decide) (by decide))) (E.var rfl) (mod_ok _ lim (by omega))) rfl rfl)))))), (md _).1, (md _).2, town cs hc⟩
      · have := E.and (T := T) (env := [.val (lstI ns), .val (.cell 0), .val (.int lim), .val (.int at_), .val (.int cs[at_]), .no]) (w := [.lst ((((k : Int) + 1) :: cs).map .int)]) (E.cmp (o := .ge) (scr rfl rfl) (E.bin (o := .pow) (k2 := .val) (z := .int (10 ^ 18)) (E.int (i := 10)) (E.int (i := 18)) rfl) rfl) fun _ => E.cmp (o := .gt) (E.var (i := 4) rfl) (E.int (i := 0)) rfl
        rw [Bool.not_eq_true] at hb
        rw [hb] at this
        exact this
      · have q1 : 0 ≤ (ns[at_] + 104729 * ((k : Int) + 1)) % 4294967291 := Int.emod_nonneg _ (by decide)
        have q2 : (ns[at_] + 104729 * ((k : Int) + 1)) % 4294967291 < 4294967291 := Int.emod_lt_of_pos _ (by decide)
        simp only [binD]
        rw [if_pos ⟨by decide, by decide, by omega⟩]
        rfl
end
end R
end
section
set_option Elab.async false
set_option linter.all false
/-! MC5: the laws' own closure, facets, faces, simplices, complexes. -/
namespace R
open PySem
section
variable {T : Tab}
theorem law_key_ok (s : (List Int)) : Runs T D_law_key [tupI s] (keyD s) := fun w =>
  run_eq rfl (ES.retL (E.tup (EL.cons (E.blt (E.var rfl) rfl) (EL.cons (E.var rfl) EL.nil)) rfl) rfl rfl) (by simp [keyD])
/-! ### closure -/
theorem found_mem {x : (List Int)} : ∀ {l f : List (List Int)}, x ∈ l.foldl (fun f s => f ++ subs s) f ↔ x ∈ f ∨ ∃ s ∈ l, x.Sublist s ∧ x ≠ []
  | [], f => by simp
  | s :: l, f => by
    rw [List.foldl_cons, found_mem, List.mem_append, mem_subs]
    constructor
    · rintro ((h | h) | ⟨s', h1, h2⟩)
      · exact .inl h
      · exact .inr ⟨s, List.mem_cons_self, h⟩
      · exact .inr ⟨s', List.mem_cons_of_mem _ h1, h2⟩
    · rintro (h | ⟨s', h1, h2⟩)
      · exact .inl (.inl h)
      · rcases List.mem_cons.mp h1 with rfl | h1
        · exact .inl (.inr h2)
        · exact .inr ⟨s', h1, h2⟩
theorem found_len : ∀ {l f : List (List Int)}, (∀ s ∈ l, s.length ≤ 4) → (l.foldl (fun f s => f ++ subs s) f).length ≤ f.length + 16 * l.length
  | [], f, _ => by simp
  | s :: l, f, h => by
    rw [List.foldl_cons]
    have h1 := found_len (f := f ++ subs s) fun x hx => h x (List.mem_cons_of_mem _ hx)
    have h3 := len_subs4 (h s List.mem_cons_self)
    simp only [List.length_cons, List.length_append] at *
    omega
theorem clo_dd {l f : List (List Int)} (h : ∀ x, x ∈ f ↔ ∃ s ∈ l, x.Sublist s ∧ x ≠ []) : srt kLt (sset sLt f) = clo l :=
  asc_ext so_kLt (srt_asc so_kLt ((sset_asc so_sLt f).nodup so_sLt)) (asc_clo l) fun x => by rw [mem_srt, mem_sset, h, mem_clo]
theorem dd_len {l f : List (List Int)} (h : ∀ x, x ∈ f ↔ ∃ s ∈ l, x.Sublist s ∧ x ≠ []) : (dd f).length ≤ (clo l).length :=
  nodup_len_le (nodup_ddR f) fun x hx => mem_clo.mpr ((h x).mp (mem_ddR.mp hx))
theorem sortset_tups (f : List (List Int)) (hn : ∀ s ∈ f, s ≠ []) (h : (dd f).length < 63) : bltD .sortSet (.lst (f.map tupI)) = some (.own, lstS (sset sLt f)) := by
  simp only [bltD, setD_tups f h, Option.bind_some]
  rw [sort_tups _ (fun s hs => hn s (mem_ddR.mp hs)) (by omega)]; rfl
theorem sortset_tupsT (f : List (List Int)) (hn : ∀ s ∈ f, s ≠ []) (h : (dd f).length < 63) : bltD .sortSet (lstS f) = some (.own, lstS (sset sLt f)) := sortset_tups f hn h
theorem rowsOf_snoc (s : (List Int)) (v : Int) : rowsOf (s ++ [v]) = rowsOf s ++ (rowsOf s).map (· ++ [v]) := by simp [rowsOf]
theorem rowsOf_len (s : (List Int)) : (rowsOf s).length = 2 ^ s.length := by unfold rowsOf; rw [rows_len]; simp
theorem rowsOf_le {s r : (List Int)} (h : r ∈ rowsOf s) : r.length ≤ s.length := by
  obtain ⟨p, hp, q, hq, rfl⟩ := (mem_rows s [[]] r).mp h
  simp at hp
  subst hp
  simpa using hq.length_le
/-- the inner rows of one simplex -/
theorem rows_for {s : (List Int)} (hs : s.length ≤ 16) {a b s4 : Sl} {w : Wd} :
    ∃ s4', ES T (.for (.one 4) (.iv (.var 2)) (.cons (.asg (.one 3) (.bin .add (.var 3) (.lc [5] (.one 5) (.iv (.var 3)) (.bl true) (.bin .add (.var 5) (.tup (.cons (.var 4) .nil)))))) (.cons (.frz 3) .nil))) [a, b, .val (tupI s), .val (lstS [[]]), s4, .no] w (.next [a, b, .val (tupI s), .val (lstS (rowsOf s)), s4', .no] w) := by
  obtain ⟨env', h1, s4', rfl⟩ := ES.forE (T := T) (tg := .one 4) (it := .iv (.var 2)) (s := .cons (.asg (.one 3) (.bin .add (.var 3) (.lc [5] (.one 5) (.iv (.var 3)) (.bl true) (.bin .add (.var 5) (.tup (.cons (.var 4) .nil)))))) (.cons (.frz 3) .nil)) (env := [a, b, .val (tupI s), .val (lstS [[]]), s4, .no]) (w := w) (w1 := w) (l := s) (e' := D.int)
    (fun pre env => ∃ s4, env = [a, b, .val (tupI s), .val (lstS (rowsOf pre)), s4, .no]) (EI.iv (E.var rfl) rfl rfl) ⟨s4, rfl⟩ (by
      rintro pre v post env e ⟨s4, rfl⟩
      have hp : pre.length < 16 := by rw [e] at hs; simp at hs; omega
      have hl : (rowsOf pre).length ≤ 2 ^ 16 := by
        rw [rowsOf_len]
        exact Nat.pow_le_pow_right (by decide) (by omega)
      refine ⟨_, _, rfl, ES.asgF (E.bin (E.var rfl) (E.lcA (l := rowsOf pre) (e' := tupI) (u := fun r => tupI (r ++ [v])) (EI.iv (E.var rfl) rfl rfl) rfl fun r hr' => Turn.all rfl (E.bin (k2 := .val) (E.var rfl) (E.tup (EL.cons (E.var rfl) EL.nil) rfl) ?_) rfl) (add_lst _ _ ?_)) rfl rfl ES.nil, .val (.int v), ?_⟩
      · have := rowsOf_le hr'
        rw [show tupI r = .tup (r.map .int) from rfl, add_tup _ _ (by simp; omega)]
        simp [tupI]
      · simp; omega
      · rw [rowsOf_snoc]
        simp only [lstS, List.map_append, List.map_map]
        rfl)
  exact ⟨s4', h1⟩
theorem law_closure_ok {fk : Nat} (hk : ∀ s, Gives T fk [tupI s] (keyD s)) {d : D} {l : List (List Int)} (hd : SeqS d l) (hl : ∀ s ∈ l, s.length ≤ 4) (hz : l.length ≤ 100000) (h63 : (clo l).length < 63) : RunsO T (D_law_closure fk) [d] (lstS (clo l)) := fun w => by
  refine run_ret rfl (ES.asgF (E.lst EL.nil rfl) rfl rfl (ES.for (l := l) (e' := tupI) (fun pre env => ∃ s2 s3 s4, env = [.val d, .val (lstS (pre.foldl (fun f s => f ++ subs s) [])), s2, s3, s4, .no]) (EI.iv (E.var rfl) rfl hd.items) ⟨.no, .no, .no, rfl⟩ ?_ ?_))
  · rintro pre s post env e ⟨s2, s3, s4, rfl⟩
    have hs : s.length ≤ 4 := hl s (by rw [e]; simp)
    have hp : pre.length ≤ l.length := by rw [e]; simp
    have h1 := found_len (l := pre) (f := []) fun x hx => hl x (by rw [e]; simp [hx])
    have h2 := len_subs4 hs
    obtain ⟨s4', hf⟩ := rows_for (T := T) (s := s) (by omega) (a := .val d) (b := .val (lstS (pre.foldl (fun f s => f ++ subs s) []))) (s4 := s4) (w := w)
    refine ⟨_, _, rfl, ES.asgF (k := .own) (x := lstS [[]]) (E.lst (EL.cons (E.tup EL.nil rfl) EL.nil) rfl) rfl rfl (ES.next hf (ES.asgF (E.bin (k2 := .own) (z := lstS ((pre ++ [s]).foldl (fun f s => f ++ subs s) [])) (E.var rfl) (E.slce_from (k2 := .own) (z := lstS (subs s)) (E.var rfl) rfl E.int ?_) ?_) rfl rfl ES.nil)), _, _, _, rfl⟩
    · simp [slcD, lstS, cut_from1, subs]
    · simp only [List.length_nil] at h1
      show binD .add (.lst _) (.lst _) = _
      rw [add_lst _ _ (by rw [List.length_map, List.length_map]; omega), List.foldl_append]
      simp only [lstS, List.foldl_cons, List.foldl_nil, List.map_append]
  · rintro env' ⟨s2, s3, s4, rfl⟩
    have hm : ∀ x, x ∈ l.foldl (fun f s => f ++ subs s) [] ↔ ∃ s ∈ l, x.Sublist s ∧ x ≠ [] := fun x => by rw [found_mem]; simp
    have hd := dd_len hm
    refine ES.retL (E.sortk (l := sset sLt (l.foldl (fun f s => f ++ subs s) [])) (e' := tupI) (kd := keyD) (E.blt (k2 := .own) (E.var rfl) (sortset_tups _ (fun s h => ((hm s).mp h).choose_spec.2.2) (by omega))) rfl (fun a _ => Enc.shp 8 a (by decide)) (fun a _ => hk a []) ?_) rfl rfl
    rw [sort_keys, clo_dd hm]
    have : (sset sLt (l.foldl (fun f s => f ++ subs s) [])).length = (dd (l.foldl (fun f s => f ++ subs s) [])).length := srt_length _
    omega
/-! ### facets -/
theorem fil_nil (a b : (List Int)) : decide ((b.filter fun v => !memB v a) = []) = cont a b := by
  unfold cont
  rw [Bool.eq_iff_iff]
  simp [memB]
theorem cmp_eq_nilS (l : List (List Int)) : cmpD .eq (.lst (l.map tupI)) (.lst []) = some (decide (l = [])) := cmp_eq (e := lstS) (by decide) l []
theorem cmp_eq_nilI (l : List Int) : cmpD .eq (.lst (l.map .int)) (.lst []) = some (decide (l = [])) := cmp_eq (e := lstI) (by decide) l []
theorem law_holds_ok (a b : (List Int)) : Runs T D_law_holds [tupI a, tupI b] (.bl (cont a b)) := fun w =>
  run_eq rfl (ES.retL (E.cmp (E.lc (l := b) (e' := D.int) (pr := fun v => !memB v a) (u := D.int) (EI.iv (E.var rfl) rfl rfl) rfl fun v _ => Turn.mk' (k := .val) rfl (E.cmp (E.var rfl) (E.var rfl) (cmp_notin_tup (by decide) v a)) fun _ => ⟨E.var rfl, rfl⟩) (E.lst EL.nil rfl) (cmp_eq_nilI _)) rfl rfl) (by rw [fil_nil])
/-- the given ones that no other contains -/
def lfac (l : List (List Int)) : List (List Int) := (sset kLt l).filter (topB l)
theorem topB_fil (l : List (List Int)) (s : (List Int)) : decide ((l.filter fun o => !decide (o = s) && cont o s) = []) = topB l s := by
  unfold topB
  rw [Bool.eq_iff_iff]
  simp
theorem law_facets_ok {fh fk : Nat} (hh : ∀ a b : (List Int), Gives T fh [tupI a, tupI b] (.bl (cont a b))) (hk : ∀ s, Gives T fk [tupI s] (keyD s)) {l : List (List Int)} (hn : ∀ s ∈ l, s ≠ []) (h63 : (dd l).length < 63) : Runs T (D_law_facets fh fk) [lstS l] (tupS (lfac l)) := fun w => by
  have e0 : srt kLt (sset sLt l) = sset kLt l := asc_ext so_kLt (srt_asc so_kLt ((sset_asc so_sLt l).nodup so_sLt)) (sset_asc so_kLt l) fun x => by rw [mem_srt, mem_sset, mem_sset]
  have l1 : (sset sLt l).length = (dd l).length := srt_length _
  have l2 : (sset kLt l).length = (dd l).length := srt_length _
  refine run_ret rfl (ES.next (ES.asgO (E.lst EL.nil rfl)) (ES.for (l := sset kLt l) (e' := tupI) (fun pre env => ∃ s2, env = [.val (lstS l), .own (lstS (pre.filter (topB l))), s2, .no]) (EI.iv (k := .own) (x := lstS (sset kLt l)) (E.sortk (l := sset sLt l) (e' := tupI) (kd := keyD) (E.blt (k2 := .own) (E.var rfl) (sortset_tups l hn h63)) rfl (fun a _ => Enc.shp 8 a (by decide)) (fun a _ => hk a []) (by rw [sort_keys _ (by omega), e0])) rfl rfl) ⟨.no, rfl⟩ ?_ ?_))
  · rintro pre s post env e ⟨s2, rfl⟩
    have hp : pre.length ≤ (sset kLt l).length := by rw [e]; simp
    have hf := List.length_filter_le (topB l) pre
    refine ⟨_, [.val (lstS l), .own (lstS ((pre ++ [s]).filter (topB l))), .val (tupI s), .no], rfl, ?_, _, rfl⟩
    refine ES.if (E.cmp (E.lc (l := l) (e' := tupI) (pr := fun o => !decide (o = s) && cont o s) (u := tupI) (EI.iv (E.var rfl) rfl rfl) rfl fun o _ => Turn.mk' (k := .val) rfl (E.and (E.cmp (E.var rfl) (E.var rfl) (cmp_ne (by decide) o s)) fun _ => E.call (EL.cons (E.var rfl) (EL.cons (E.var rfl) EL.nil)) rfl (hh o s w) rfl) fun _ => ⟨E.var rfl, rfl⟩) (E.lst EL.nil rfl) (cmp_eq_nilS _)) (fun h => ?_) fun h => ?_
    · rw [topB_fil] at h
      rw [List.filter_append, show [s].filter (topB l) = [s] by simp [h]]
      refine ES.flat (ES.next (ES.app rfl (E.var rfl) rfl (by simp; omega)) (ES.nils ?_))
      rw [show lstS (pre.filter (topB l) ++ [s]) = .lst ((pre.filter (topB l)).map tupI ++ [tupI s]) by simp [lstS]]
      exact ES.nil
    · rw [topB_fil] at h
      rw [List.filter_append, show [s].filter (topB l) = [] by simp [h], List.append_nil]
      exact ES.nils ES.nil
  · rintro env' ⟨s2, rfl⟩
    exact ES.retL (E.blt (E.ovar rfl) rfl) rfl rfl
/-! ### faces -/
def lfaces (s : (List Int)) : List (List Int) := if s.length = 1 then [] else srt sLt (s.map fun v => s.filter fun o => !decide (o = v))
theorem law_faces_ok {s : (List Int)} (hs : s.length ≤ 1000) (hf : s.length ≠ 1 → ∀ v ∈ s, (s.filter fun o => !decide (o = v)) ≠ []) : RunsO T D_law_faces [tupI s] (lstS (lfaces s)) := fun w => by
  refine run_eq rfl (ES.ifR (E.cmp (E.blt (E.var rfl) rfl) E.int (cmp_eq (e := D.int) (by decide) _ _)) (fun _ => ES.retF (E.lst EL.nil rfl) rfl rfl) fun h => ES.nils (ES.retL (E.blt (k2 := .own) (z := lstS (srt sLt (s.map fun v => s.filter fun o => !decide (o = v)))) (E.lcA (l := s) (e' := D.int) (u := fun v => tupI (s.filter fun o => !decide (o = v)))
    (EI.iv (E.var rfl) rfl rfl) rfl fun v _ => Turn.all rfl (E.blt (k2 := .val) (E.lc (l := s) (e' := D.int) (pr := fun o => !decide (o = v)) (u := D.int) (EI.iv (E.var rfl) rfl rfl) rfl fun o _ => Turn.mk' (k := .val) rfl (E.cmp (E.var rfl) (E.var rfl) (cmp_ne (by decide) o v)) fun _ => ⟨E.var rfl, rfl⟩) rfl) rfl) ?_) rfl rfl)) ?_
  · have h1 : s.length ≠ 1 := by simp at h; omega
    have e : (s.map fun v => tupI (s.filter fun o => !decide (o = v))) = (s.map fun v => s.filter fun o => !decide (o = v)).map tupI := by rw [List.map_map]; rfl
    simp only [bltD]
    rw [e, sort_tups _ (fun x hx => by obtain ⟨v, hv, rfl⟩ := List.mem_map.mp hx; exact hf h1 v hv) (by simp; omega)]
    rfl
  · simp only [lfaces, List.length_map]
    by_cases h : s.length = 1
    · have : (((s.length : Nat) : Int) = 1) := by omega
      simp [h, lstS]
    · have : ¬ (((s.length : Nat) : Int) = 1) := by omega
      simp [h, this]
end
end R
end
section
set_option Elab.async false
set_option linter.all false
/-! MC6: the law's components; drawn simplices and complexes. -/
namespace R
open PySem
section
variable {T : Tab}
theorem near_fil (s g : (List Int)) : (!decide ((s.filter fun v => memB v g) = [])) = s.any fun v => memB v g := by
  rw [Bool.eq_iff_iff]
  simp
theorem cmp_ne_nilI (l : List Int) : cmpD .ne (.lst (l.map .int)) (.lst []) = some (!decide (l = [])) := cmp_ne (e := lstI) (by decide) l []
theorem sset_comm (a b : (List Int)) : sset iLt (a ++ b) = sset iLt (b ++ a) := sset_eq so_iLt (sset_asc so_iLt _) fun x => by rw [mem_sset]; simp [or_comm]
theorem law_parts_ok {fs : List (List Int)} (hs : ∀ s ∈ fs, InV s ∧ s ≠ [] ∧ s.length ≤ 8) (hz : fs.length ≤ 100) : Runs T D_law_parts [lstS fs] (tupS (srt sLt (comps fs))) := fun w => by
  have gr : ∀ pre post, fs = pre ++ post → GrOk pre.length (comps pre) := fun pre post e => grok_comps fun s h => ⟨(hs s (by rw [e]; simp [h])).1, (hs s (by rw [e]; simp [h])).2.1⟩
  refine run_ret rfl (ES.asgF (E.lst EL.nil rfl) rfl rfl (ES.for (l := fs) (e' := tupI) (fun pre env => ∃ s2 s3 s4 s5, (∀ d, s5 ≠ Sl.own d) ∧ env = [.val (lstS fs), .val (.lst ((comps pre).map lstI)), s2, s3, s4, s5, .no]) (EI.iv (E.var rfl) rfl rfl) ⟨.no, .no, .no, .no, fun d h => (by cases h), rfl⟩ ?_ ?_))
  · rintro pre s post env e ⟨s2, s3, s4, x5, hx5, rfl⟩
    have g := gr pre (s :: post) e
    have hp : pre.length ≤ 100 := by rw [e] at hz; simp at hz; omega
    obtain ⟨v1, v2, v3⟩ := hs s (by rw [e]; simp)
    have hl := g.len
    have no5 : ∀ {a b c d e x : Sl}, (∀ d, x ≠ Sl.own d) → noOwn [a, b, c, d, e, x, .no] [5] = true := fun {a b c d e x} h => by
      cases x with
      | own d => exact absurd rfl (h d)
      | _ => rfl
    have hfl := g.flat fun g => s.any fun v => memB v g
    generalize hnear : (comps pre).filter (fun g => s.any fun v => memB v g) = near at hfl
    obtain ⟨env', h1, x5', hx5', rfl⟩ := ES.forE (T := T) (tg := .one 5) (it := .iv (.var 3)) (s := .cons (.asg (.one 4) (.bin .add (.var 4) (.var 5))) (.cons (.frz 4) .nil)) (w := w) (w1 := w) (l := near) (e' := lstI)
      (env := [.val (lstS fs), .val (.lst ((comps pre).map lstI)), .val (tupI s), .val (.lst (near.map lstI)), .val (lstI s), x5, .no])
      (fun p2 env => ∃ x5, (∀ d, x5 ≠ Sl.own d) ∧ env = [.val (lstS fs), .val (.lst ((comps pre).map lstI)), .val (tupI s), .val (.lst (near.map lstI)), .val (lstI (s ++ p2.flatten)), x5, .no])
      (EI.iv (E.var rfl) rfl rfl) ⟨x5, hx5, by rw [List.flatten_nil, List.append_nil]; rfl⟩ (by
        rintro p2 g2 post2 env e2 ⟨x5, hx5, rfl⟩
        have hsum : p2.flatten.length + g2.length ≤ near.flatten.length := by rw [e2]; simp only [List.flatten_append, List.flatten_cons, List.length_append]; omega
        refine ⟨_, _, rfl, ES.asgF (k := .own) (x := lstI (s ++ (p2 ++ [g2]).flatten)) (E.bin (k2 := .own) (E.var rfl) (E.var rfl) ?_) rfl rfl ES.nil, .val (lstI g2), fun d h => (by cases h), rfl⟩
        show binD .add (.lst _) (.lst _) = _
        rw [add_lst _ _ (by rw [List.length_map, List.length_map, List.length_append]; omega)]
        simp [lstI])
    refine ⟨_, _, rfl, ES.asgF (k := .own) (x := .lst (near.map lstI)) (hnear ▸ E.lc (l := comps pre) (e' := lstI) (pr := fun g => s.any fun v => memB v g) (u := lstI) (EI.iv (E.var rfl) rfl rfl) (no5 hx5) fun g _ => Turn.mk' (k := .val) rfl (E.cmp (E.lc (l := s) (e' := D.int) (pr := fun v => memB v g) (u := D.int) (EI.iv (E.var rfl) rfl rfl) rfl fun v _ => Turn.mk' (k := .val) rfl (E.cmp (E.var rfl) (E.var rfl) (cmp_in_lst (by decide) v g)) fun _ => ⟨E.var rfl, rfl⟩) (E.lst EL.nil rfl) (by rw [cmp_ne_nilI, near_fil])) fun _ => ⟨E.var rfl, rfl⟩) rfl rfl
      (ES.asgF (k := .own) (x := lstI s) (E.blt (E.var rfl) rfl) rfl rfl (ES.next h1
      (ES.asgF (E.bin (k2 := .own) (E.lc (l := comps pre) (e' := lstI) (pr := fun g => !memB g near) (u := lstI) (EI.iv (E.var rfl) rfl rfl) (no5 hx5') fun g _ => Turn.mk' (k := .val) rfl (E.cmp (E.var rfl) (E.var rfl) (cmp_notin_lst (by decide) g _)) fun _ => ⟨E.var rfl, rfl⟩) (E.lst (EL.cons (E.blt (k2 := .own) (z := lstI (sset iLt (near.flatten ++ s))) (E.var rfl) ?_) EL.nil) rfl) (add_lst _ _ ?_)) rfl rfl ES.nil))), .val (tupI s), .val (.lst (near.map lstI)), .val (lstI (s ++ near.flatten)), x5', hx5', ?_⟩
    · rw [sset_comm]
      refine sortset_ints _ ?_
      simp only [List.length_append]
      omega
    · have := List.length_filter_le (fun g => !memB g near) (comps pre)
      simp only [List.length_map, List.length_cons, List.length_nil]
      omega
    · rw [comps_snoc, compStep, hnear, List.map_append]
      rfl
  · rintro env' ⟨s2, s3, s4, x5, hx5, rfl⟩
    have g := gr fs [] (by simp)
    have hl := g.len
    have no5 : noOwn [.val (lstS fs), .val (.lst ((comps fs).map lstI)), s2, s3, s4, x5, .no] [5] = true := by
      cases x5 with
      | own d => exact absurd rfl (hx5 d)
      | _ => rfl
    refine ES.retL (E.blt (k2 := .val) (E.blt (k2 := .own) (z := lstS (srt sLt (comps fs))) (E.lcA (l := comps fs) (e' := lstI) (u := tupI) (EI.iv (E.var rfl) rfl rfl) no5 fun g _ => Turn.all rfl (E.blt (k2 := .val) (E.var rfl) rfl) rfl) ?_) rfl) rfl rfl
    simp only [bltD]
    rw [sort_tups _ (fun s h => g.ne s h) (by omega)]
    rfl
end
end R
end
section
set_option Elab.async false
set_option linter.all false
/-! MC7: drawn simplices and complexes. -/
namespace R
open PySem
section
variable {T : Tab}
theorem lc_fxA {α : Type} {f : D → Wd → M (Option D)} {e : α → D} {Pd : D → Prop} (I : Nat → Wd → Prop) : ∀ {l : List α} {i : Nat} {w : Wd}, I i w → (∀ a ∈ l, ∀ j w, i ≤ j → j < i + l.length → I j w → ∃ u w', f (e a) w = some (.ok (some u) w') ∧ Pd u ∧ I (j + 1) w') →
    ∃ us w', lcLoop f (l.map e) w = some (.ok us w') ∧ us.length = l.length ∧ (∀ u ∈ us, Pd u) ∧ I (i + l.length) w'
  | [], i, w, h, _ => ⟨[], w, rfl, rfl, by simp, h⟩
  | a :: l, i, w, h, k => by
    obtain ⟨u, w1, h1, h2, h3⟩ := k a List.mem_cons_self i w (Nat.le_refl _) (by simp) h
    obtain ⟨us, w2, h4, h7, h5, h6⟩ := lc_fxA (Pd := Pd) I (l := l) h3 fun b hb j w h1 h2 => k b (List.mem_cons_of_mem _ hb) j w (by omega) (by simp; omega)
    refine ⟨u :: us, w2, by simp only [List.map_cons, lcLoop, h1, h4]; rfl, by simp [h7], fun x hx => ?_, by rw [List.length_cons, show i + (l.length + 1) = i + 1 + l.length by omega]; exact h6⟩
    rcases List.mem_cons.mp hx with rfl | hx
    · exact h2
    · exact h5 x hx
/-- one turn of a comprehension -/
def lcT (T : Tab) (vs : List Nat) (tg : Tg) (c e : CE) (env : En) (x : D) (w2 : Wd) : M (Option D) := match bindTg tg x (wipeE env vs) with
      | some env' => bnd (evE T c env' w2) fun b w3 => match b with
        | (_, .bl true) => bnd (evE T e env' w3) fun y w4 => lift ((keepOk y).map some) w4
        | (_, .bl false) => ret none w3
        | _ => none
      | none => none
theorem turnW {vs : List Nat} {tg : Tg} {c e : CE} {env env1 : En} {w w1 w2 : Wd} {x u : D} {kc k : Kd} (hb : bindTg tg x (wipeE env vs) = some env1) (hc : E T c env1 w kc (.bl true) w1) (he : E T e env1 w1 k u w2) (hk : kept k = true) : lcT T vs tg c e env x w = some (.ok (some u) w2) := by
  unfold lcT
  rw [hb]
  dsimp only
  rw [hc.eq]
  dsimp only [bnd]
  rw [he.eq]
  dsimp only [bnd]
  rw [keepOk_of hk]; rfl
theorem turnN {vs : List Nat} {tg : Tg} {c e : CE} {env env1 : En} {w w1 : Wd} {x : D} {kc : Kd} (hb : bindTg tg x (wipeE env vs) = some env1) (hc : E T c env1 w kc (.bl false) w1) : lcT T vs tg c e env x w = some (.ok none w1) := by
  unfold lcT
  rw [hb]
  dsimp only
  rw [hc.eq]
  rfl
theorem E.lcRaw {vs : List Nat} {tg : Tg} {it c e : CE} {env : En} {w w1 w2 : Wd} {xs us : List D} (hi : EI T it env w xs w1) (no : noOwn env vs = true) (h : lcLoop (lcT T vs tg c e env) xs w1 = some (.ok us w2)) : E T (.lc vs tg it c e) env w .own (.lst us) w2 := by
  refine ⟨?_, nofun⟩
  rw [evE, if_pos no, show evI T it env w = _ from hi]
  show bnd (lcLoop (lcT T vs tg c e env) xs w1) _ = _
  rw [h]; rfl
theorem of_ints {p : Int → Prop} : ∀ {us : List D}, (∀ u ∈ us, ∃ r : Int, u = .int r ∧ p r) → ∃ rs : List Int, us = rs.map .int ∧ ∀ r ∈ rs, p r
  | [], _ => ⟨[], rfl, by simp⟩
  | u :: us, h => by
    obtain ⟨r, rfl, hr⟩ := h u List.mem_cons_self
    obtain ⟨rs, rfl, hs⟩ := of_ints fun x hx => h x (List.mem_cons_of_mem _ hx)
    exact ⟨r :: rs, rfl, fun x hx => by (rcases List.mem_cons.mp hx with rfl | hx); exact hr; exact hs x hx⟩
structure DrawnS (vs most : Int) (s : (List Int)) : Prop where
  asc : Asc iLt s
  ne : s ≠ []
  len : (s.length : Int) ≤ most
  mem : ∀ v ∈ s, 0 ≤ v ∧ v < vs
def DrawsS (T : Tab) (f : Nat) : Prop := ∀ (ns : List Int) (k : Nat) (w : Wd) (vs most : Int), ns.length ≤ 1000 → k + 100 < 2 ^ 40 → 1 ≤ vs → vs < 2 ^ 30 → 1 ≤ most → most ≤ 16 → Town ns k w → ∃ s w' k', T.call f [lstI ns, .cell 0, .int vs, .int most] w = some (.ok (.val, tupI s) w') ∧ DrawnS vs most s ∧ Town ns k' w' ∧ k' ≤ k + 20
theorem law_simplex_ok {fd : Nat} (hd : Draws T fd) {ns : List Int} {k : Nat} {w : Wd} {vs most : Int} (hz : ns.length ≤ 1000) (hk : k + 100 < 2 ^ 40) (h1 : 1 ≤ vs) (h2 : vs < 2 ^ 30) (h3 : 1 ≤ most) (h4 : most ≤ 16) (ht : Town ns k w) :
    ∃ s w' k', runD T (D_law_simplex fd) [lstI ns, .cell 0, .int vs, .int most] w = some (.ok (.val, tupI s) w') ∧ DrawnS vs most s ∧ Town ns k' w' ∧ k' ≤ k + 20 := by
  obtain ⟨r, w1, c1, r0, r1, t1⟩ := hd ns k w most hz (by omega) h3 (by omega) ht
  obtain ⟨n, hn⟩ : ∃ n : Nat, 1 + r = n := ⟨(1 + r).toNat, by omega⟩
  -- the loop
  obtain ⟨us, w2, l1, l2, l3, t2⟩ := lc_fxA (f := lcT T [6] (.one 6) (.bl true) (.call fd (.cons (.var 0) (.cons (.var 1) (.cons (.var 2) .nil)))) [.val (lstI ns), .val (.cell 0), .val (.int vs), .val (.int most), .val (.int n), .no, .no]) (e := fun i : Nat => D.int i) (Pd := fun u => ∃ r : Int, u = .int r ∧ (0 ≤ r ∧ r < vs)) (fun i w => Town ns i w) (l := List.range n) (i := k + 1) (w := w1) t1 (fun a _ i w hi1 hi2 ht => by
        obtain ⟨r, w', c, p1, p2, p3⟩ := hd ns i w vs hz (by simp at hi2; omega) h1 h2 ht
        exact ⟨.int r, w', turnW rfl E.bl (E.call (EL.cons (E.var rfl) (EL.cons (E.var rfl) (EL.cons (E.var rfl) EL.nil))) rfl c rfl) rfl, ⟨r, rfl, p1, p2⟩, p3⟩)
  obtain ⟨rs, rfl, hr⟩ := of_ints l3
  simp only [List.length_map, List.length_range] at l2 t2
  have ld : (dd rs).length ≤ rs.length := nodup_len_le (nodup_ddR rs) fun x hx => mem_ddR.mp hx
  have ls : (sset iLt rs).length = (dd rs).length := srt_length _
  refine ⟨sset iLt rs, w2, _, run_retW rfl (by rw [t2.len, ht.len]) (ES.asgF (E.bin (k2 := .val) (z := .int n) E.int (E.call (EL.cons (E.var rfl) (EL.cons (E.var rfl) (EL.cons (E.var rfl) EL.nil))) rfl c1 rfl) (by simp [binD, hn])) rfl rfl
    (ES.asgF (E.lcRaw (EI.ir (EL.cons (E.var rfl) EL.nil) ?_) rfl l1) rfl rfl (ES.retL (E.blt (k2 := .val) (E.blt (k2 := .own) (E.var rfl) (sortset_ints rs (by omega))) rfl) rfl rfl))), ⟨sset_asc so_iLt rs, fun e => ?_, by omega, fun v hv => hr v (mem_sset.mp hv)⟩, t2, by omega⟩
  · simp only [rangeD, Int.toNat_natCast]
    rw [if_pos (by omega)]
  · cases rs with
    | nil => simp at l2; omega
    | cons x rs =>
      have : x ∈ sset iLt (x :: rs) := mem_sset.mpr (by simp)
      rw [e] at this
      cases this
/-! ### complexes -/
theorem clo_snoc {l : List (List Int)} {s : (List Int)} (hs : s.length ≤ 4) : (clo (l ++ [s])).length ≤ (clo l).length + 16 := by
  have := nodup_len_le (l := clo (l ++ [s])) (m := clo l ++ subs s) ((asc_clo _).nodup so_kLt) fun x hx => by
    obtain ⟨t, ht, h1, h2⟩ := mem_clo.mp hx
    rcases List.mem_append.mp ht with ht | ht
    · exact List.mem_append_left _ (mem_clo.mpr ⟨t, ht, h1, h2⟩)
    · simp at ht; subst ht
      exact List.mem_append_right _ (mem_subs.mpr ⟨h1, h2⟩)
  have := len_subs4 hs
  simp only [List.length_append] at *
  omega
theorem clo_one {s : (List Int)} (hs : s.length ≤ 4) : (clo [s]).length ≤ 16 := by
  have := nodup_len_le (l := clo [s]) (m := subs s) ((asc_clo _).nodup so_kLt) fun x hx => by
    obtain ⟨t, ht, h1, h2⟩ := mem_clo.mp hx
    simp at ht; subst ht
    exact mem_subs.mpr ⟨h1, h2⟩
  have := len_subs4 hs
  omega
/-- what was drawn -/
structure DrawnG (vs most limit : Int) (given : List (List Int)) : Prop where
  ne : given ≠ []
  all : ∀ s ∈ given, DrawnS vs most s
  lim : ((clo given).length : Int) ≤ limit
  len : given.length ≤ 10
theorem dd_clo {l : List (List Int)} (h : ∀ s ∈ l, s ≠ []) : (dd l).length ≤ (clo l).length :=
  nodup_len_le (nodup_ddR l) fun x hx => mem_clo.mpr ⟨x, mem_ddR.mp hx, List.Sublist.refl _, h x (mem_ddR.mp hx)⟩
def DrawsC (T : Tab) (f : Nat) : Prop := ∀ (ns : List Int) (k : Nat) (w : Wd) (vs most limit : Int), ns.length ≤ 1000 → k + 1000 < 2 ^ 40 → 1 ≤ vs → vs < 2 ^ 30 → 1 ≤ most → most ≤ 4 → 16 ≤ limit → limit ≤ 46 → Town ns k w →
  ∃ given w' k', T.call f [lstI ns, .cell 0, .int vs, .int most, .int limit] w = some (.ok (.val, tupS (lfac given)) w') ∧ DrawnG vs most limit given ∧ Town ns k' w' ∧ k' ≤ k + 300
theorem law_complex_ok {fcl fd ffa fs : Nat} (hd : Draws T fd) (hs : DrawsS T fs) (hcl : ∀ l : List (List Int), (∀ s ∈ l, s.length ≤ 4) → l.length ≤ 1000 → (clo l).length < 63 → GivesO T fcl [lstS l] (lstS (clo l))) (hfa : ∀ l : List (List Int), (∀ s ∈ l, s ≠ []) → (dd l).length < 63 → Gives T ffa [lstS l] (tupS (lfac l)))
    {ns : List Int} {k : Nat} {w : Wd} {vs most limit : Int} (hz : ns.length ≤ 1000) (hk : k + 1000 < 2 ^ 40) (h1 : 1 ≤ vs) (h2 : vs < 2 ^ 30) (h3 : 1 ≤ most) (h4 : most ≤ 4) (h5 : 16 ≤ limit) (h6 : limit ≤ 46) (ht : Town ns k w) :
    ∃ given w' k', runD T (D_law_complex fcl fd ffa fs) [lstI ns, .cell 0, .int vs, .int most, .int limit] w = some (.ok (.val, tupS (lfac given)) w') ∧ DrawnG vs most limit given ∧ Town ns k' w' ∧ k' ≤ k + 300 := by
  obtain ⟨s0, w1, k1, c1, d1, t1, b1⟩ := hs ns k w vs most hz (by omega) h1 h2 h3 (by omega) ht
  obtain ⟨r, w2, c2, r0, r1, t2⟩ := hd ns k1 w1 9 hz (by omega) (by decide) (by decide) t1
  have l0 : s0.length ≤ 4 := by have := d1.len; omega
  have args : ∀ {x5 x6 x7 : Sl} {w : Wd}, EL T (.cons (.var 0) (.cons (.var 1) (.cons (.var 2) (.cons (.var 3) .nil)))) [.val (lstI ns), .val (.cell 0), .val (.int vs), .val (.int most), .val (.int limit), x5, x6, x7] w [(.val, lstI ns), (.val, .cell 0), (.val, .int vs), (.val, .int most)] w := fun {x5 x6 x7 w} => EL.cons (E.var rfl) (EL.cons (E.var rfl) (EL.cons (E.var rfl) (EL.cons (E.var rfl) EL.nil)))
  obtain ⟨env', w3, f1, given, k3, x6, x7, rfl, g3, l3, t3, b3⟩ := ES.forW (T := T) (tg := .one 6) (it := .ir (.cons (.call fd (.cons (.var 0) (.cons (.var 1) (.cons (.int 9) .nil)))) .nil)) (l := List.range r.toNat) (e' := fun i : Nat => D.int i) (w := w1) (w1 := w2)
    (env := [.val (lstI ns), .val (.cell 0), .val (.int vs), .val (.int most), .val (.int limit), .val (lstS [s0]), .no, .no])
    (s := .cons (.asg (.one 7) (.bin .add (.var 5) (.lst (.cons (.call fs (.cons (.var 0) (.cons (.var 1) (.cons (.var 2) (.cons (.var 3) .nil))))) .nil)))) (.cons (.frz 7) (.cons (.ite (.cmp .le (.blt .len (.call fcl (.cons (.var 7) .nil))) (.var 4)) (.cons (.asg (.one 5) (.var 7)) (.cons (.frz 5) .nil)) .nil) .nil)))
    (fun pre env w => ∃ given k' x6 x7, env = [.val (lstI ns), .val (.cell 0), .val (.int vs), .val (.int most), .val (.int limit), .val (lstS given), x6, x7] ∧ (given ≠ [] ∧ (∀ s ∈ given, DrawnS vs most s) ∧ ((clo given).length : Int) ≤ limit) ∧ given.length ≤ 1 + pre.length ∧ Town ns k' w ∧ k' ≤ k1 + 1 + 20 * pre.length)
    (EI.ir (EL.cons (E.call (EL.cons (E.var rfl) (EL.cons (E.var rfl) (EL.cons E.int EL.nil))) rfl c2 rfl) EL.nil) (by simp only [rangeD]; rw [if_pos (by omega)]))
    ⟨[s0], k1 + 1, .no, .no, rfl, ⟨by simp, fun s h => by simp at h; subst h; exact d1, by have := clo_one l0; omega⟩, by simp, t2, by simp⟩ (by
      rintro pre a post env w e ⟨given, k', x6, x7, rfl, ⟨g1, g2, g3⟩, gl, t, b⟩
      have hp : pre.length < 9 := by
        have := congrArg List.length e
        simp at this
        omega
      obtain ⟨s, w5, k5, c5, d5, t5, b5⟩ := hs ns k' w vs most hz (by omega) h1 h2 h3 (by omega) t
      have l5 : s.length ≤ 4 := by have := d5.len; omega
      have hm : (clo (given ++ [s])).length ≤ (clo given).length + 16 := clo_snoc l5
      have hcl' := hcl (given ++ [s]) (fun x hx => by
        rcases List.mem_append.mp hx with hx | hx
        · have := (g2 x hx).len; omega
        · simp at hx; subst hx; exact l5) (by simp; omega) (by omega) w5
      have more : ∀ env2 : En, ES T (.cons (.ite (.cmp .le (.blt .len (.call fcl (.cons (.var 7) .nil))) (.var 4)) (.cons (.asg (.one 5) (.var 7)) (.cons (.frz 5) .nil)) .nil) .nil) [.val (lstI ns), .val (.cell 0), .val (.int vs), .val (.int most), .val (.int limit), .val (lstS given), .val (.int a), .val (lstS (given ++ [s]))] w5 (.next env2 w5) →
          ES T (.cons (.asg (.one 7) (.bin .add (.var 5) (.lst (.cons (.call fs (.cons (.var 0) (.cons (.var 1) (.cons (.var 2) (.cons (.var 3) .nil))))) .nil)))) (.cons (.frz 7) (.cons (.ite (.cmp .le (.blt .len (.call fcl (.cons (.var 7) .nil))) (.var 4)) (.cons (.asg (.one 5) (.var 7)) (.cons (.frz 5) .nil)) .nil) .nil))) [.val (lstI ns), .val (.cell 0), .val (.int vs), .val (.int most), .val (.int limit), .val (lstS given), .val (.int a), x7] w (.next env2 w5) := fun env2 h =>
        ES.asgF (k := .own) (x := lstS (given ++ [s])) (E.bin (k2 := .own) (E.var rfl) (E.lst (EL.cons (E.call args rfl c5 rfl) EL.nil) rfl) (by
          show binD .add (.lst _) (.lst _) = _
          rw [add_lst _ _ (by rw [List.length_map]; simp; omega)]
          simp [lstS])) rfl rfl h
      have cond : E T (.cmp .le (.blt .len (.call fcl (.cons (.var 7) .nil))) (.var 4)) [.val (lstI ns), .val (.cell 0), .val (.int vs), .val (.int most), .val (.int limit), .val (lstS given), .val (.int a), .val (lstS (given ++ [s]))] w5 .val (.bl (decide ((((clo (given ++ [s])).length : Nat) : Int) ≤ limit))) w5 :=
        E.cmp (E.blt (k2 := .val) (z := .int ((clo (given ++ [s])).length : Nat)) (E.call (EL.cons (E.var rfl) EL.nil) rfl hcl' rfl) (by simp [lstS, bltD])) (E.var rfl) rfl
      by_cases hlim : (((clo (given ++ [s])).length : Nat) : Int) ≤ limit
      · refine ⟨_, _, w5, rfl, more _ (ES.if cond (fun _ => ES.flat2 (ES.asgF (k := .val) (E.var rfl) rfl rfl (ES.nils ES.nil))) (fun h => by simp at h; omega)), given ++ [s], k5, .val (.int a), _, rfl, ⟨by simp, fun x hx => ?_, hlim⟩, by simp; omega, t5, by simp; omega⟩
        rcases List.mem_append.mp hx with hx | hx
        · exact g2 x hx
        · simp at hx; subst hx; exact d5
      · exact ⟨_, _, w5, rfl, more _ (ES.if cond (fun h => by simp at h; omega) (fun _ => ES.nils ES.nil)), given, k5, .val (.int a), _, rfl, ⟨g1, g2, g3⟩, by simp; omega, t5, by simp; omega⟩)
  obtain ⟨q1, q2, q3⟩ := g3
  simp only [List.length_range] at l3 b3
  have q4 : ∀ s ∈ given, s ≠ [] := fun s h => (q2 s h).ne
  refine ⟨given, w3, k3, run_retW rfl (by rw [t3.len, ht.len]) (ES.asgF (k := .own) (x := lstS [s0]) (E.lst (EL.cons (E.call args rfl c1 rfl) EL.nil) rfl) rfl rfl (ES.next f1 (ES.retL (E.call (EL.cons (E.var rfl) EL.nil) rfl (hfa given q4 (by have := dd_clo q4; omega) w3) rfl) rfl rfl))), ⟨q1, q2, q3, by omega⟩, t3, by omega⟩
end
end R
end
section
set_option Elab.async false
set_option linter.all false
/-! MD: complexes, in plain mathematics. -/
namespace R
open PySem
/-! ### ascending lists as sets -/
theorem asc_sub : ∀ {a b : (List Int)}, Asc iLt a → Asc iLt b → (∀ v ∈ a, v ∈ b) → a.Sublist b
  | [], b, _, _, _ => List.nil_sublist b
  | x :: a, [], _, _, h => by have := h x List.mem_cons_self; cases this
  | x :: a, y :: b, ha, hb, h => by
    have ha' := List.pairwise_cons.mp ha
    have hb' := List.pairwise_cons.mp hb
    rcases List.mem_cons.mp (h x List.mem_cons_self) with rfl | hx
    · refine (asc_sub ha'.2 hb'.2 fun v hv => ?_).cons_cons x
      rcases List.mem_cons.mp (h v (List.mem_cons_of_mem _ hv)) with rfl | h'
      · have := ha'.1 v hv
        rw [so_iLt.irr] at this; cases this
      · exact h'
    · refine (asc_sub ha hb'.2 fun v hv => ?_).cons y
      rcases List.mem_cons.mp (h v hv) with rfl | h'
      · -- y is below x, and x is at most y
        have h1 := hb'.1 x hx
        rcases List.mem_cons.mp hv with rfl | hv
        · rw [so_iLt.irr] at h1; cases h1
        · have h2 := ha'.1 v hv
          rw [so_iLt.asy h1] at h2; cases h2
      · exact h'
theorem asc_eq {a b : (List Int)} (ha : Asc iLt a) (hb : Asc iLt b) (h : ∀ v, v ∈ a ↔ v ∈ b) : a = b := asc_ext so_iLt ha hb h
theorem sub_eq {a b : (List Int)} (h : a.Sublist b) (l : b.length ≤ a.length) : a = b := h.eq_of_length_le l
theorem simB_iff {s : (List Int)} : simB s = true ↔ 1 ≤ s.length ∧ s.length ≤ 4 ∧ (∀ v ∈ s, 0 ≤ v ∧ v ≤ 7) ∧ Asc iLt s := by
  simp only [simB, Bool.and_eq_true, decide_eq_true_eq, ascB_iff so_iLt, List.all_eq_true, vtx]
  constructor
  · rintro ⟨⟨⟨h1, h2⟩, h3⟩, h4⟩
    exact ⟨h1, h2, h3, h4⟩
  · rintro ⟨h1, h2, h3, h4⟩
    exact ⟨⟨⟨h1, h2⟩, h3⟩, h4⟩
theorem simB_sub {s r : (List Int)} (h : simB s = true) (hr : r.Sublist s) (h0 : r ≠ []) : simB r = true := by
  obtain ⟨h1, h2, h3, h4⟩ := simB_iff.mp h
  refine simB_iff.mpr ⟨List.length_pos_iff.mpr h0, Nat.le_trans hr.length_le h2, fun v hv => h3 v (hr.subset hv), h4.sublist hr⟩
theorem simB_ne {s : (List Int)} (h : simB s = true) : s ≠ [] := by rintro rfl; simp [simB] at h
theorem simB_inV {s : (List Int)} (h : simB s = true) : InV s := (simB_iff.mp h).2.2.1
theorem simB_asc {s : (List Int)} (h : simB s = true) : Asc iLt s := (simB_iff.mp h).2.2.2
theorem cont_sub {a b : (List Int)} (ha : simB a = true) (hb : simB b = true) : cont a b = true ↔ b.Sublist a := by
  rw [cont_iff]
  exact ⟨fun h => asc_sub (simB_asc hb) (simB_asc ha) h, fun h => h.subset⟩
/-- a complex by its facets -/
structure Cpx (fs : List (List Int)) : Prop where
  ne : fs ≠ []
  all : ∀ s ∈ fs, simB s = true
  asc : Asc kLt fs
  anti : ∀ a ∈ fs, ∀ b ∈ fs, b.Sublist a → b = a
theorem topB_iff {l : List (List Int)} {s : (List Int)} (hl : ∀ s ∈ l, simB s = true) (hs : simB s = true) : topB l s = true ↔ ∀ o ∈ l, s.Sublist o → o = s := by
  unfold topB
  rw [Bool.not_eq_true', List.any_eq_false]
  constructor
  · intro h o ho hso
    have := h o ho
    rw [(cont_sub (hl o ho) hs).mpr hso] at this
    simpa using this
  · intro h o ho
    rw [Bool.and_eq_true, cont_sub (hl o ho) hs]
    rintro ⟨h1, h2⟩
    have := h o ho h2
    simp [this] at h1
theorem Cpx.maxi {fs : List (List Int)} (h : Cpx fs) : maxi fs = fs := by
  unfold R.maxi
  have : fs.filter (topB fs) = fs := by
    rw [List.filter_eq_self]
    exact fun s hs => (topB_iff h.all (h.all s hs)).mpr fun o ho hso => (h.anti o ho s hs hso).symm
  rw [this, srt_self so_kLt h.asc]
theorem Cpx.good {fs : List (List Int)} (h : Cpx fs) (hz : (clo fs).length ≤ 60) : goodB fs = true := by
  simp only [goodB, Bool.and_eq_true, decide_eq_true_eq, Bool.not_eq_true', decide_eq_false_iff_not, List.all_eq_true]
  exact ⟨⟨⟨⟨h.ne, h.all⟩, (ascB_iff so_kLt fs).mpr h.asc⟩, h.maxi⟩, hz⟩
theorem Cpx.of_good {fs : List (List Int)} (h : goodB fs = true) : Cpx fs ∧ (clo fs).length ≤ 60 := by
  simp only [goodB, Bool.and_eq_true, decide_eq_true_eq, Bool.not_eq_true', decide_eq_false_iff_not, List.all_eq_true] at h
  obtain ⟨⟨⟨⟨h1, h2⟩, h3⟩, h4⟩, h5⟩ := h
  refine ⟨⟨h1, h2, (ascB_iff so_kLt fs).mp h3, fun a ha b hb hs => ?_⟩, h5⟩
  rw [← h4] at hb
  unfold R.maxi at hb
  rw [mem_srt, List.mem_filter] at hb
  exact ((topB_iff h2 (h2 b hb.1)).mp hb.2 a ha hs).symm
theorem clo_simB {fs : List (List Int)} (h : ∀ s ∈ fs, simB s = true) {x : (List Int)} (hx : x ∈ clo fs) : simB x = true := by
  obtain ⟨s, hs, h1, h2⟩ := mem_clo.mp hx
  exact simB_sub (h s hs) h1 h2
theorem mem_clo_self {fs : List (List Int)} (h : ∀ s ∈ fs, simB s = true) {s : (List Int)} (hs : s ∈ fs) : s ∈ clo fs := mem_clo.mpr ⟨s, hs, List.Sublist.refl _, simB_ne (h s hs)⟩
/-- between its facets and all its simplices -/
theorem clo_between {fs g : List (List Int)} (h1 : ∀ s ∈ fs, s ∈ g) (h2 : ∀ s ∈ g, s ∈ clo fs) : clo g = clo fs :=
  clo_of (asc_clo fs) fun x => by
    rw [mem_clo]
    constructor
    · rintro ⟨s, hs, h3, h4⟩
      exact ⟨s, h1 s hs, h3, h4⟩
    · rintro ⟨s, hs, h3, h4⟩
      obtain ⟨f, hf, h5, _⟩ := mem_clo.mp (h2 s hs)
      exact ⟨f, hf, h3.trans h5, h4⟩
theorem Cpx.maxi_clo {fs : List (List Int)} (h : Cpx fs) : R.maxi (clo fs) = fs := by
  have hs : ∀ s ∈ clo fs, simB s = true := fun s hs => clo_simB h.all hs
  refine srt_eq so_kLt (((asc_clo fs).nodup so_kLt).filter _) h.asc fun x => ?_
  rw [List.mem_filter]
  constructor
  · rintro ⟨h1, h2⟩
    obtain ⟨f, hf, h3, _⟩ := mem_clo.mp h1
    rw [topB_iff hs (hs x h1)] at h2
    rw [← h2 f (mem_clo_self h.all hf) h3]
    exact hf
  · intro hx
    refine ⟨mem_clo_self h.all hx, (topB_iff hs (h.all x hx)).mpr fun o ho hxo => ?_⟩
    obtain ⟨f, hf, h3, _⟩ := mem_clo.mp ho
    have := h.anti f hf x hx (hxo.trans h3)
    subst this
    exact sub_eq h3 hxo.length_le
/-! ### what was drawn -/
theorem DrawnS.simB {s : (List Int)} (h : DrawnS 8 4 s) : simB s = true :=
  simB_iff.mpr ⟨List.length_pos_iff.mpr h.ne, by have := h.len; omega, fun v hv => by have := h.mem v hv; omega, h.asc⟩
theorem DrawnS.simB' {vs most : Int} {s : (List Int)} (h : DrawnS vs most s) (h1 : vs ≤ 8) (h2 : most ≤ 4) : R.simB s = true :=
  simB_iff.mpr ⟨List.length_pos_iff.mpr h.ne, by have := h.len; omega, fun v hv => by have := h.mem v hv; omega, h.asc⟩
/-- above each one there is a top one -/
theorem top_above {l : List (List Int)} (hl : ∀ s ∈ l, simB s = true) : ∀ (n : Nat) (s : (List Int)), s ∈ l → 4 - s.length ≤ n → ∃ f ∈ l, topB l f = true ∧ s.Sublist f := by
  intro n
  induction n with
  | zero =>
    intro s hs hn
    refine ⟨s, hs, (topB_iff hl (hl s hs)).mpr fun o ho hso => ?_, List.Sublist.refl _⟩
    have := (simB_len (hl o ho)).2
    exact (sub_eq hso (by omega)).symm
  | succ n ih =>
    intro s hs hn
    by_cases ht : topB l s = true
    · exact ⟨s, hs, ht, List.Sublist.refl _⟩
    · rw [topB_iff hl (hl s hs)] at ht
      have ⟨o, h1⟩ := Classical.not_forall.mp ht
      have ⟨ho, h2⟩ := Classical.not_forall.mp h1
      have ⟨hso, h3⟩ := Classical.not_forall.mp h2
      have hlt : s.length < o.length := by
        rcases Nat.lt_or_ge s.length o.length with h | h
        · exact h
        · exact absurd (sub_eq hso h).symm h3
      have := (simB_len (hl o ho)).2
      obtain ⟨f, hf, h4, h5⟩ := ih o ho (by omega)
      exact ⟨f, hf, h4, hso.trans h5⟩
theorem mem_lfac {l : List (List Int)} {s : (List Int)} : s ∈ lfac l ↔ s ∈ l ∧ topB l s = true := by
  unfold lfac
  rw [List.mem_filter, mem_sset]
theorem lfac_cpx {l : List (List Int)} (h0 : l ≠ []) (hl : ∀ s ∈ l, simB s = true) : Cpx (lfac l) ∧ clo (lfac l) = clo l := by
  refine ⟨⟨fun e => ?_, fun s hs => hl s (mem_lfac.mp hs).1, (sset_asc so_kLt l).filter _, fun a ha b hb hs => ?_⟩, ?_⟩
  · obtain ⟨s, r, rfl⟩ := List.exists_cons_of_ne_nil h0
    obtain ⟨f, hf, h1, _⟩ := top_above hl 4 s List.mem_cons_self (by omega)
    have : f ∈ lfac (s :: r) := mem_lfac.mpr ⟨hf, h1⟩
    rw [e] at this
    cases this
  · have hb := mem_lfac.mp hb
    exact ((topB_iff hl (hl b hb.1)).mp hb.2 a (mem_lfac.mp ha).1 hs).symm
  · refine clo_of (asc_clo l) fun x => ?_
    rw [mem_clo]
    constructor
    · rintro ⟨s, hs, h1, h2⟩
      obtain ⟨f, hf, h3, h4⟩ := top_above hl 4 s hs (by omega)
      exact ⟨f, mem_lfac.mpr ⟨hf, h3⟩, h1.trans h4, h2⟩
    · rintro ⟨s, hs, h1, h2⟩
      exact ⟨s, (mem_lfac.mp hs).1, h1, h2⟩
/-! ### faces -/
theorem fil_erase : ∀ {s : (List Int)}, s.Nodup → (s.map fun v => s.filter fun o => !decide (o = v)) = (List.range s.length).map fun i => s.eraseIdx i := fun {s} nd => by
  apply List.ext_getElem
  · simp
  · intro i h1 h2
    simp only [List.length_map] at h1
    rw [List.getElem_map, List.getElem_map, List.getElem_range]
    have gen : ∀ (s : (List Int)) (i : Nat) (h : i < s.length), s.Nodup → (s.filter fun o => !decide (o = s[i])) = s.eraseIdx i := by
      intro s
      induction s with
      | nil => intro i h; simp at h
      | cons x s ih =>
        intro i h nd
        have nd' := List.nodup_cons.mp nd
        cases i with
        | zero =>
          simp only [List.getElem_cons_zero, List.eraseIdx_cons_zero]
          rw [List.filter_cons]
          simp only [decide_true, Bool.not_true, Bool.false_eq_true, if_false]
          rw [List.filter_eq_self]
          intro a ha
          simp
          rintro rfl
          exact nd'.1 ha
        | succ i =>
          simp only [List.getElem_cons_succ, List.eraseIdx_cons_succ]
          have hi : i < s.length := by simpa using h
          rw [List.filter_cons, if_pos (by
            simp
            intro e
            exact nd'.1 (by rw [e]; exact List.getElem_mem hi)), ih i hi nd'.2]
    exact gen s i h1 nd
theorem lfaces_eq {s : (List Int)} (h : Asc iLt s) : lfaces s = facesL s := by
  unfold lfaces facesL
  rw [fil_erase (h.nodup so_iLt)]
theorem lfaces_ne {s : (List Int)} (h : Asc iLt s) (h1 : s.length ≠ 1) : ∀ v ∈ s, (s.filter fun o => !decide (o = v)) ≠ [] := by
  intro v hv e
  have nd := h.nodup so_iLt
  have h2 : ∀ o ∈ s, o = v := fun o ho => by
    have := List.filter_eq_nil_iff.mp e o ho
    simpa using this
  cases s with
  | nil => cases hv
  | cons x r => cases r with
    | nil => exact h1 rfl
    | cons y r =>
      have a := h2 x (by simp)
      have b := h2 y (by simp)
      rw [a, b] at nd
      simp at nd
theorem mem_facesL {s f : (List Int)} (hs : Asc iLt s) : f ∈ facesL s ↔ s.length ≠ 1 ∧ ∃ i, i < s.length ∧ f = s.eraseIdx i := by
  unfold facesL
  split
  · rename_i h; simp [h]
  · rename_i h
    rw [mem_srt, List.mem_map]
    constructor
    · rintro ⟨i, hi, rfl⟩; exact ⟨h, i, List.mem_range.mp hi, rfl⟩
    · rintro ⟨_, i, hi, rfl⟩; exact ⟨i, List.mem_range.mpr hi, rfl⟩
end R
end
section
set_option Elab.async false
set_option linter.all false
/-! MD2: the components of the facets are those of all simplices. -/
namespace R
open PySem
inductive Conn (ss : List (List Int)) : Int → Int → Prop
  | one {s : (List Int)} {u v : Int} : s ∈ ss → u ∈ s → v ∈ s → Conn ss u v
  | trans {u v t : Int} : Conn ss u v → Conn ss v t → Conn ss u t
theorem Conn.mono {ss tt : List (List Int)} (h : ∀ s ∈ ss, ∃ t ∈ tt, ∀ v ∈ s, v ∈ t) {u v : Int} (c : Conn ss u v) : Conn tt u v := by
  induction c with
  | one hs hu hv => obtain ⟨t, ht, k⟩ := h _ hs; exact .one ht (k _ hu) (k _ hv)
  | trans _ _ ih1 ih2 => exact .trans ih1 ih2
theorem Conn.symm {ss : List (List Int)} {u v : Int} (c : Conn ss u v) : Conn ss v u := by
  induction c with
  | one hs hu hv => exact .one hs hv hu
  | trans _ _ ih1 ih2 => exact .trans ih2 ih1
structure Groups (ss gs : List (List Int)) : Prop where
  asc : ∀ g ∈ gs, Asc iLt g
  ne : ∀ g ∈ gs, g ≠ []
  nd : gs.Nodup
  dis : ∀ g ∈ gs, ∀ g' ∈ gs, ∀ v, v ∈ g → v ∈ g' → g = g'
  cov : ∀ v, (∃ g ∈ gs, v ∈ g) ↔ ∃ s ∈ ss, v ∈ s
  con : ∀ g ∈ gs, ∀ u ∈ g, ∀ v ∈ g, Conn ss u v
  tog : ∀ s ∈ ss, ∀ u ∈ s, ∀ v ∈ s, ∃ g ∈ gs, u ∈ g ∧ v ∈ g
theorem Groups.step {ss gs : List (List Int)} {s : (List Int)} (G : Groups ss gs) (hs : s ≠ []) : Groups (ss ++ [s]) (compStep gs s) := by
  have up : ∀ {u v}, Conn ss u v → Conn (ss ++ [s]) u v := fun c => c.mono fun t ht => ⟨t, List.mem_append_left _ ht, fun _ h => h⟩
  obtain ⟨near, hnear⟩ : ∃ near, near = gs.filter fun g => s.any fun v => memB v g := ⟨_, rfl⟩
  have mn : ∀ g, g ∈ near ↔ g ∈ gs ∧ ∃ v ∈ s, v ∈ g := fun g => by
    rw [hnear, List.mem_filter]
    simp [memB]
  have mj : ∀ v, v ∈ sset iLt (near.flatten ++ s) ↔ (∃ g ∈ near, v ∈ g) ∨ v ∈ s := fun v => by
    rw [mem_sset, List.mem_append, List.mem_flatten]
  have e : compStep gs s = gs.filter (fun g => !memB g near) ++ [sset iLt (near.flatten ++ s)] := by rw [hnear]; rfl
  have mr : ∀ g, g ∈ gs.filter (fun g => !memB g near) ↔ g ∈ gs ∧ g ∉ near := fun g => by
    rw [List.mem_filter]
    simp [memB]
  have mc : ∀ g, g ∈ compStep gs s ↔ (g ∈ gs ∧ g ∉ near) ∨ g = sset iLt (near.flatten ++ s) := fun g => by
    rw [e, List.mem_append, mr, List.mem_singleton]
  have ap : ∀ g, g ∈ gs → g ∉ near → ∀ v, v ∈ g → v ∉ sset iLt (near.flatten ++ s) := fun g hg hn v hv hj => by
    rcases (mj v).mp hj with ⟨n, h1, h2⟩ | h
    · have := G.dis g hg n ((mn n).mp h1).1 v hv h2
      exact hn (this ▸ h1)
    · exact hn ((mn g).mpr ⟨hg, v, h, hv⟩)
  obtain ⟨x0, hx0⟩ := List.exists_mem_of_ne_nil s hs
  have hj0 : x0 ∈ sset iLt (near.flatten ++ s) := (mj x0).mpr (.inr hx0)
  have toS : ∀ v, v ∈ sset iLt (near.flatten ++ s) → ∃ x ∈ s, Conn (ss ++ [s]) v x := fun v hv => by
    rcases (mj v).mp hv with ⟨n, h1, h2⟩ | h
    · obtain ⟨h3, x, h4, h5⟩ := (mn n).mp h1
      exact ⟨x, h4, up (G.con n h3 v h2 x h5)⟩
    · exact ⟨v, h, .one (List.mem_append_right _ List.mem_cons_self) h h⟩
  refine ⟨fun g hg => ?_, fun g hg => ?_, ?_, fun g hg g' hg' v hv hv' => ?_, fun v => ?_, fun g hg u hu v hv => ?_, fun t ht u hu v hv => ?_⟩
  · rcases (mc g).mp hg with h | rfl
    · exact G.asc g h.1
    · exact sset_asc so_iLt _
  · rcases (mc g).mp hg with h | rfl
    · exact G.ne g h.1
    · exact List.ne_nil_of_mem hj0
  · rw [e, List.nodup_append]
    refine ⟨G.nd.filter _, by simp, fun a ha b hb => ?_⟩
    rw [List.mem_singleton] at hb
    subst hb
    rintro rfl
    have ha := (mr _).mp ha
    exact ap _ ha.1 ha.2 x0 hj0 hj0
  · rcases (mc g).mp hg with h | rfl <;> rcases (mc g').mp hg' with h' | rfl
    · exact G.dis g h.1 g' h'.1 v hv hv'
    · exact absurd hv' (ap g h.1 h.2 v hv)
    · exact absurd hv (ap g' h'.1 h'.2 v hv')
    · rfl
  · constructor
    · rintro ⟨g, hg, hv⟩
      rcases (mc g).mp hg with h | rfl
      · obtain ⟨t, ht, h2⟩ := (G.cov v).mp ⟨g, h.1, hv⟩
        exact ⟨t, List.mem_append_left _ ht, h2⟩
      · rcases (mj v).mp hv with ⟨n, h1, h2⟩ | h
        · obtain ⟨t, ht, h2⟩ := (G.cov v).mp ⟨n, ((mn n).mp h1).1, h2⟩
          exact ⟨t, List.mem_append_left _ ht, h2⟩
        · exact ⟨s, List.mem_append_right _ List.mem_cons_self, h⟩
    · rintro ⟨t, ht, hv⟩
      rcases List.mem_append.mp ht with ht | ht
      · obtain ⟨g, hg, h2⟩ := (G.cov v).mpr ⟨t, ht, hv⟩
        by_cases hn : g ∈ near
        · exact ⟨_, (mc _).mpr (.inr rfl), (mj v).mpr (.inl ⟨g, hn, h2⟩)⟩
        · exact ⟨g, (mc g).mpr (.inl ⟨hg, hn⟩), h2⟩
      · rw [List.mem_singleton] at ht
        subst ht
        exact ⟨_, (mc _).mpr (.inr rfl), (mj v).mpr (.inr hv)⟩
  · rcases (mc g).mp hg with h | rfl
    · exact up (G.con g h.1 u hu v hv)
    · obtain ⟨x, hx, c1⟩ := toS u hu
      obtain ⟨y, hy, c2⟩ := toS v hv
      exact c1.trans ((Conn.one (List.mem_append_right _ List.mem_cons_self) hx hy).trans c2.symm)
  · rcases List.mem_append.mp ht with ht | ht
    · obtain ⟨g, hg, h1, h2⟩ := G.tog t ht u hu v hv
      by_cases hn : g ∈ near
      · exact ⟨_, (mc _).mpr (.inr rfl), (mj u).mpr (.inl ⟨g, hn, h1⟩), (mj v).mpr (.inl ⟨g, hn, h2⟩)⟩
      · exact ⟨g, (mc g).mpr (.inl ⟨hg, hn⟩), h1, h2⟩
    · rw [List.mem_singleton] at ht
      subst ht
      exact ⟨_, (mc _).mpr (.inr rfl), (mj u).mpr (.inr hu), (mj v).mpr (.inr hv)⟩
theorem groups_comps : ∀ {ss : List (List Int)}, (∀ s ∈ ss, s ≠ []) → Groups ss (comps ss) := fun {ss} => by
  have gen : ∀ (post pre : List (List Int)), (∀ s ∈ post, s ≠ []) → Groups pre (comps pre) → Groups (pre ++ post) (comps (pre ++ post)) := by
    intro post
    induction post with
    | nil => intro pre _ h; simpa using h
    | cons s post ih =>
      intro pre h g
      have := ih (pre ++ [s]) (fun x hx => h x (List.mem_cons_of_mem _ hx)) (by rw [comps_snoc]; exact g.step (h s List.mem_cons_self))
      simpa using this
  intro h
  simpa using gen ss [] h ⟨by simp [comps], by simp [comps], by simp [comps], by simp [comps], by simp [comps], by simp [comps], by simp⟩
theorem Groups.mem_iff {ss gs : List (List Int)} (G : Groups ss gs) {g : (List Int)} (hg : g ∈ gs) {u : Int} (hu : u ∈ g) (v : Int) : v ∈ g ↔ Conn ss u v := by
  refine ⟨fun hv => G.con g hg u hu v hv, fun c => ?_⟩
  have gen : ∀ {u v}, Conn ss u v → u ∈ g → v ∈ g := fun c => by
    induction c with
    | one hs hu hv =>
      intro h
      obtain ⟨g', hg', h1, h2⟩ := G.tog _ hs _ hu _ hv
      rw [G.dis g hg g' hg' _ h h1]; exact h2
    | trans _ _ ih1 ih2 => exact fun h => ih2 (ih1 h)
  exact gen c hu
theorem Groups.sub {ss tt gs hs : List (List Int)} (G : Groups ss gs) (K : Groups tt hs) (h1 : ∀ s ∈ ss, ∃ t ∈ tt, ∀ v ∈ s, v ∈ t) (h2 : ∀ t ∈ tt, ∃ s ∈ ss, ∀ v ∈ t, v ∈ s) {g : (List Int)} (hg : g ∈ gs) : g ∈ hs := by
  obtain ⟨u, hu⟩ := List.exists_mem_of_ne_nil g (G.ne g hg)
  obtain ⟨s, hs', hu'⟩ := (G.cov u).mp ⟨g, hg, hu⟩
  obtain ⟨t, ht, k⟩ := h1 s hs'
  obtain ⟨g', hg', hu2⟩ := (K.cov u).mpr ⟨t, ht, k u hu'⟩
  have : g = g' := asc_eq (G.asc g hg) (K.asc g' hg') fun v => by
    rw [G.mem_iff hg hu, K.mem_iff hg' hu2]
    exact ⟨fun c => c.mono h1, fun c => c.mono h2⟩
  rw [this]; exact hg'
theorem comps_clo {fs : List (List Int)} (h : ∀ s ∈ fs, simB s = true) : srt sLt (comps (clo fs)) = srt sLt (comps fs) := by
  have G := groups_comps (ss := fs) fun s hs => simB_ne (h s hs)
  have K := groups_comps (ss := clo fs) fun s hs => simB_ne (clo_simB h hs)
  have h1 : ∀ s ∈ fs, ∃ t ∈ clo fs, ∀ v ∈ s, v ∈ t := fun s hs => ⟨s, mem_clo_self h hs, fun _ x => x⟩
  have h2 : ∀ t ∈ clo fs, ∃ s ∈ fs, ∀ v ∈ t, v ∈ s := fun t ht => by
    obtain ⟨s, hs, h3, _⟩ := mem_clo.mp ht
    exact ⟨s, hs, fun v hv => h3.subset hv⟩
  exact srt_eq so_sLt K.nd (srt_asc so_sLt G.nd) fun g => by
    rw [mem_srt]
    exact ⟨fun hg => K.sub G h2 h1 hg, fun hg => G.sub K h1 h2 hg⟩
end R
end
section
set_option Elab.async false
set_option linter.all false
/-! ML: what the laws' bodies share. -/
namespace R
open PySem
section
variable {T : Tab} {s s2 r : CS} {env env1 : En} {w w1 w2 : Wd} {k : Kd} {x d : D} {c e : CE}
/-- the law ends in True -/
def GX (T : Tab) (s : CS) (env : En) (w : Wd) : Prop := ∃ w', w'.length = 1 ∧ ES T s env w (.ret .val (.bl true) w')
theorem GX.asgF {i : Nat} (h : E T e env w k x w1) (hk : kept k = true) (hi : Nat.blt i env.length = true) (h2 : GX T r (env.set i (.val x)) w1) : GX T (.cons (.asg (.one i) e) (.cons (.frz i) r)) env w := let ⟨w', a, b⟩ := h2; ⟨w', a, ES.asgF h hk hi b⟩
theorem GX.next (h : ES T s env w (.next env1 w1)) (h2 : GX T r env1 w1) : GX T (.cons s r) env w := let ⟨w', a, b⟩ := h2; ⟨w', a, ES.next h b⟩
/-- a test that does not hold -/
theorem GX.no {s1 : CS} {p : Bool} (h : E T c env w k (.bl p) w1) (hp : p = false) (h2 : GX T r env w1) : GX T (.cons (.ite c s1 .nil) r) env w := let ⟨w', a, b⟩ := h2; ⟨w', a, ES.if h (fun z => by rw [hp] at z; cases z) fun _ => ES.nils b⟩
theorem E.to {d' : D} (h : E T e env w k d w1) (q : d = d') : E T e env w k d' w1 := q ▸ h
theorem GX.ret (h : E T e env w .val (.bl true) w1) (hv : varOf e = none) (hw : w1.length = 1) : GX T (.cons (.ret e) r) env w := ⟨w1, hw, ES.retL h rfl hv⟩
theorem GX.for {α : Type} {tg : Tg} {it : CE} {e' : α → D} {l : List α} (R : List α → En → Prop) (hi : EI T it env w (l.map e') w1) (h0 : R [] (frzI it env))
    (hs : ∀ pre a post env, l = pre ++ a :: post → R pre env → ∃ env1 env2, bindTg tg (e' a) env = some env1 ∧ ES T s env1 w1 (.next env2 w1) ∧ R (pre ++ [a]) env2) (hn : ∀ env', R l env' → GX T r env' w1) : GX T (.cons (.for tg it s) r) env w := by
  obtain ⟨env', h1, h2⟩ := ES.forE R hi h0 hs
  exact GX.next h1 (hn env' h2)
/-- a test that does not hold, within a loop -/
theorem ES.no {s1 : CS} {o : Out} {p : Bool} (h : E T c env w k (.bl p) w1) (hp : p = false) (h2 : ES T r env w1 o) : ES T (.cons (.ite c s1 .nil) r) env w o := ES.if h (fun z => by rw [hp] at z; cases z) fun _ => ES.nils h2
/-- a choice that draws: sel is taken, what p tells among it -/
theorem lc_sel {α : Type} {f : D → Wd → M (Option D)} {e u : α → D} {p : α → Prop} (I : Nat → Wd → Prop) : ∀ {l : List α} {i : Nat} {w : Wd}, I i w → (∀ a ∈ l, ∀ j w, j < i + l.length → I j w → ∃ (b : Bool) (w' : Wd), f (e a) w = some (.ok (if b then some (u a) else none) w') ∧ (p a → b = true) ∧ I (j + 1) w') →
    ∃ (sel : List α) (w' : Wd), lcLoop f (l.map e) w = some (.ok (sel.map u) w') ∧ sel.Sublist l ∧ (∀ a ∈ l, p a → a ∈ sel) ∧ I (i + l.length) w'
  | [], i, w, h, _ => ⟨[], w, rfl, List.Sublist.slnil, by simp, h⟩
  | a :: l, i, w, h, k => by
    obtain ⟨b, w1, h1, h2, h3⟩ := k a List.mem_cons_self i w (by simp) h
    obtain ⟨sel, w2, h4, h5, h6, h7⟩ := lc_sel (p := p) (u := u) I (l := l) h3 fun c hc j w hj => k c (List.mem_cons_of_mem _ hc) j w (by simp; omega)
    have e7 : I (i + (a :: l).length) w2 := by rw [List.length_cons, show i + (l.length + 1) = i + 1 + l.length by omega]; exact h7
    cases b with
    | true => exact ⟨a :: sel, w2, by simp only [List.map_cons, lcLoop, h1, h4]; rfl, h5.cons_cons a, fun c hc hp => by
        rcases List.mem_cons.mp hc with rfl | hc
        · exact List.mem_cons_self
        · exact List.mem_cons_of_mem _ (h6 c hc hp), e7⟩
    | false => exact ⟨sel, w2, by simp only [List.map_cons, lcLoop, h1, h4]; rfl, h5.cons a, fun c hc hp => by
        rcases List.mem_cons.mp hc with rfl | hc
        · have := h2 hp; cases this
        · exact h6 c hc hp, e7⟩
def tl : CS → CS
  | .cons _ r => r
  | s => s
/-! ### outcomes -/
theorem outcome_raise {cM fc fn : Nat} {a b : D} {c0 : Nat} {m : Int} (hc : Throws T fc [a, b] c0) (hs : T.sub c0 cM = some true) (hn : Gives T fn [.exc c0 []] (.int m)) : Runs T (D_law_outcome cM fc fn) [a, b] (.tup [.str "raised", .int m]) := fun w =>
  run_ret rfl (ES.asgF E.non rfl rfl (ES.asgF E.non rfl rfl (ES.next (ES.tryX (EX.call (EL.cons (E.var rfl) (EL.cons (E.var rfl) EL.nil)) rfl (hc w)) hs ⟨by decide, Nat.lt_of_lt_of_eq (by decide : 4 < 5) rfl⟩)
    (ES.no (E.cmp (E.var rfl) E.non rfl) rfl (ES.retL (E.tup (EL.cons E.str (EL.cons (E.call (EL.cons (E.var rfl) EL.nil) rfl (hn w) rfl) EL.nil)) rfl) rfl rfl)))))
theorem raises_simplex : Runs T D_law_raises [.str "simplex"] (.tup [.str "raised", .int 1]) := fun w => run_ret rfl (by kernel_rfl)
theorem raises_complex : Runs T D_law_raises [.str "complex"] (.tup [.str "raised", .int 0]) := fun w => run_ret rfl (by kernel_rfl)
end
end R
end
section
set_option Elab.async false
set_option maxRecDepth 100000
/-! K02T: the table of the law (printed by gen.py). -/
namespace R.K02T
open PySem R
abbrev d_0 : Df := D_is_integer
abbrev d_1 : Df := D_is_vertex 0
abbrev d_2 : Df := D_is_ascending
abbrev d_3 : Df := D_is_simplex 2 1
abbrev d_4 : Df := D_simplex_key
abbrev d_5 : Df := D_subsets
abbrev d_6 : Df := D_closure 4 5
abbrev d_7 : Df := D_does_contain
abbrev d_8 : Df := D_maximal 7 4
abbrev d_9 : Df := D_is_good 6 2 3 8 4 0
abbrev d_10 : Df := D_check_complex 1 9
abbrev d_11 : Df := D_generated 2 13 6 3 8 0
abbrev d_12 : Df := D_simplices 10 6
abbrev d_13 : Df := D_dimension_of
abbrev d_14 : Df := D_counts_of 13
abbrev d_15 : Df := D_counts 10 6 14
abbrev d_16 : Df := D_euler_of
abbrev d_17 : Df := D_euler 10 6 14 16
abbrev d_18 : Df := D_faces_of
abbrev d_19 : Df := D_faces 2 18 3
abbrev d_20 : Df := D_cofaces_of 18
abbrev d_21 : Df := D_cofaces 2 10 6 20 3
abbrev d_22 : Df := D_components_of
abbrev d_23 : Df := D_components 10 22
abbrev d_24 : Df := D_law_town
abbrev d_25 : Df := D_law_draw
abbrev d_26 : Df := D_law_outcome 0 36 27
abbrev d_27 : Df := D_law_name 9 1 3 10 8 5 6 4 2 16 11 7 17 12 15 13 14 18
abbrev d_28 : Df := D_law_raises
abbrev d_29 : Df := D_law_key
abbrev d_30 : Df := D_law_closure 29
abbrev d_31 : Df := D_law_holds
abbrev d_32 : Df := D_law_facets 31 29
abbrev d_33 : Df := D_law_simplex 25
abbrev d_34 : Df := D_law_complex 30 25 32 33
abbrev d_35 : Df := D_law_faces
abbrev d_36 : Df := D_law_call 21
abbrev d_37 : Df := D_law_parts
/-- law: ['_law_script', '_law_town_here', '_law_facets_here', '_law_every', '_law_numbers', '_law_whole', '_law_simplex_here', '_law_given', '_law_other', '_law_at', '_law_number', '_law_size'] -/
def d_38 : Df := ⟨1, 12, (.cons (.asg (.one 1) (.call 24 (.cons (.var 0) .nil))) (.cons (.shr 1) (.cons (.asg (.one 2) (.call 34 (.cons (.var 0) (.cons (.var 1) (.cons (.int 8) (.cons (.int 4) (.cons (.int 40) .nil))))))) (.cons (.frz 2) (.cons (.asg (.one 3) (.call 30 (.cons (.var 2) .nil))) (.cons (.frz 3) (.cons (.ite (.or (.cmp .ne (.call 12 (.cons (.var 2) .nil)) (.blt .tuple (.var 3))) (.cmp .ne (.call 23 (.cons (.var 2) .nil)) (.call 37 (.cons (.var 3) .nil)))) (.cons (.ret (.bl false)) .nil) .nil) (.cons (.asg (.one 4) (.lc [11] (.one 11) (.ir (.cons (.int 1) (.cons (.bin .add (.blt .len (.idx (.var 2) (.neg (.int 1)))) (.int 1)) .nil))) (.bl true) (.blt .len (.lc [6] (.one 6) (.iv (.var 3)) (.cmp .eq (.blt .len (.var 6)) (.var 11)) (.var 6))))) (.cons (.frz 4) (.cons (.asg (.one 5) (.int 0)) (.cons (.frz 5) (.cons (.for (.many [9, 10]) (.ie (.cons (.var 4) .nil)) (.cons (.asg (.one 5) (.bin .add (.var 5) (.ite (.cmp .eq (.bin .mod (.var 9) (.int 2)) (.int 0)) (.var 10) (.bin .sub (.int 0) (.var 10))))) (.cons (.frz 5) .nil))) (.cons (.ite (.or (.cmp .ne (.call 15 (.cons (.var 2) .nil)) (.blt .tuple (.var 4))) (.cmp .ne (.call 17 (.cons (.var 2) .nil)) (.var 5))) (.cons (.ret (.bl false)) .nil) .nil) (.cons (.for (.one 6) (.iv (.var 3)) (.cons (.ite (.cmp .ne (.call 19 (.cons (.var 6) .nil)) (.blt .tuple (.call 35 (.cons (.var 6) .nil)))) (.cons (.ret (.bl false)) .nil) .nil) (.cons (.ite (.cmp .ne (.call 21 (.cons (.var 2) (.cons (.var 6) .nil))) (.blt .tuple (.lc [8] (.one 8) (.iv (.var 3)) (.cmp .isin (.var 6) (.call 35 (.cons (.var 8) .nil))) (.var 8)))) (.cons (.ret (.bl false)) .nil) .nil) .nil))) (.cons (.asg (.one 7) (.blt .tuple (.lc [6] (.one 6) (.iv (.var 3)) (.or (.cmp .isin (.var 6) (.var 2)) (.cmp .eq (.call 25 (.cons (.var 0) (.cons (.var 1) (.cons (.int 2) .nil)))) (.int 0))) (.var 6)))) (.cons (.frz 7) (.cons (.ite (.or (.cmp .ne (.call 11 (.cons (.var 7) .nil)) (.var 2)) (.cmp .ne (.call 11 (.cons (.bin .add (.rev2 (.var 7) 0) (.slce (.var 7) .nil (.int 2))) .nil)) (.var 2))) (.cons (.ret (.bl false)) .nil) .nil) (.cons (.asg (.one 8) (.call 33 (.cons (.var 0) (.cons (.var 1) (.cons (.int 8) (.cons (.int 4) .nil)))))) (.cons (.frz 8) (.cons (.ite (.and (.cmp .notin (.var 8) (.var 3)) (.cmp .ne (.call 26 (.cons (.int 0) (.cons (.tup (.cons (.var 2) (.cons (.var 8) .nil))) .nil))) (.call 28 (.cons (.str "simplex") .nil)))) (.cons (.ret (.bl false)) .nil) .nil) (.cons (.ret (.cmp .eq (.call 26 (.cons (.int 0) (.cons (.tup (.cons (.var 2) (.cons (.blt .list (.idx (.var 3) (.int 0))) .nil))) .nil))) (.call 28 (.cons (.str "simplex") .nil)))) .nil)))))))))))))))))))))⟩
def pt : Nat → Option Df
  | 0 => some d_0
  | 1 => some d_1
  | 2 => some d_2
  | 3 => some d_3
  | 4 => some d_4
  | 5 => some d_5
  | 6 => some d_6
  | 7 => some d_7
  | 8 => some d_8
  | 9 => some d_9
  | 10 => some d_10
  | 11 => some d_11
  | 12 => some d_12
  | 13 => some d_13
  | 14 => some d_14
  | 15 => some d_15
  | 16 => some d_16
  | 17 => some d_17
  | 18 => some d_18
  | 19 => some d_19
  | 20 => some d_20
  | 21 => some d_21
  | 22 => some d_22
  | 23 => some d_23
  | 24 => some d_24
  | 25 => some d_25
  | 26 => some d_26
  | 27 => some d_27
  | 28 => some d_28
  | 29 => some d_29
  | 30 => some d_30
  | 31 => some d_31
  | 32 => some d_32
  | 33 => some d_33
  | 34 => some d_34
  | 35 => some d_35
  | 36 => some d_36
  | 37 => some d_37
  | 38 => some d_38
  | _ => none
def gl : List (Str × Nat) := [(Str.ofString "MOST", 0)]
def exs : List (Str × Nat) := [(Str.ofString "InvalidComplex", 1), (Str.ofString "InvalidSimplex", 2), (Str.ofString "InvalidDimension", 3), (Str.ofString "InvalidPrime", 4), (Str.ofString "InvalidMatching", 5), (Str.ofString "InvalidPair", 6), (Str.ofString "NoCancellation", 7), (Str.ofString "InvalidKnowledge", 8), (Str.ofString "Contradiction", 9), (Str.ofString "InvalidFunction", 10), (Str.ofString "InvalidValue", 11), (Str.ofString "NotGraph", 12), (Str.ofString "TooLarge", 13), (Str.ofString "TooMany", 14), (Str.ofString "NothingToUndo", 15), (Str.ofString "InvalidText", 16)]
def cls : List (Str × Nat) := [(Str.ofString "MorseError", 0), (Str.ofString "InvalidComplex", 1), (Str.ofString "InvalidSimplex", 2), (Str.ofString "InvalidDimension", 3), (Str.ofString "InvalidPrime", 4), (Str.ofString "InvalidMatching", 5), (Str.ofString "InvalidPair", 6), (Str.ofString "NoCancellation", 7), (Str.ofString "InvalidKnowledge", 8), (Str.ofString "Contradiction", 9), (Str.ofString "InvalidFunction", 10), (Str.ofString "InvalidValue", 11), (Str.ofString "NotGraph", 12), (Str.ofString "TooLarge", 13), (Str.ofString "TooMany", 14), (Str.ofString "NothingToUndo", 15), (Str.ofString "InvalidText", 16), (Str.ofString "NotAcyclic", 17), (Str.ofString "ValueError", 18)]
def gv : Nat → Option D
  | 0 => some (.int 60)
  | _ => none
def topS (i : Nat) : Stmt := PySem.Challenge.pw_morsematch_k02_whole_complexes.main.body.getD i (.Pass ⟨0, 0, 0, 0⟩)
def rows : List Row :=
  ⟨"is_integer", 0, d_0, topS 21, ["value"], ["value"]⟩ ::
  ⟨"is_vertex", 1, d_1, topS 22, ["value"], ["value"]⟩ ::
  ⟨"is_ascending", 2, d_2, topS 23, ["values", "one", "other"], ["values"]⟩ ::
  ⟨"is_simplex", 3, d_3, topS 24, ["value", "part"], ["value"]⟩ ::
  ⟨"simplex_key", 4, d_4, topS 25, ["simplex"], ["simplex"]⟩ ::
  ⟨"subsets", 5, d_5, topS 26, ["simplex", "rows", "vertex", "row"], ["simplex"]⟩ ::
  ⟨"closure", 6, d_6, topS 27, ["some", "found", "simplex", "part"], ["some"]⟩ ::
  ⟨"does_contain", 7, d_7, topS 28, ["one", "other", "vertex"], ["one", "other"]⟩ ::
  ⟨"maximal", 8, d_8, topS 29, ["some", "found", "simplex", "other"], ["some"]⟩ ::
  ⟨"is_good", 9, d_9, topS 30, ["value", "simplex"], ["value"]⟩ ::
  ⟨"check_complex", 10, d_10, topS 31, ["facets"], ["facets"]⟩ ::
  ⟨"generated", 11, d_11, topS 32, ["simplices", "every", "one"], ["simplices"]⟩ ::
  ⟨"simplices", 12, d_12, topS 33, ["facets"], ["facets"]⟩ ::
  ⟨"dimension_of", 13, d_13, topS 34, ["facets"], ["facets"]⟩ ::
  ⟨"counts_of", 14, d_14, topS 35, ["facets", "some", "sizes", "simplex", "size"], ["facets", "some"]⟩ ::
  ⟨"counts", 15, d_15, topS 36, ["facets"], ["facets"]⟩ ::
  ⟨"euler_of", 16, d_16, topS 37, ["numbers", "at", "number"], ["numbers"]⟩ ::
  ⟨"euler", 17, d_17, topS 38, ["facets"], ["facets"]⟩ ::
  ⟨"faces_of", 18, d_18, topS 39, ["simplex", "at"], ["simplex"]⟩ ::
  ⟨"faces", 19, d_19, topS 40, ["simplex"], ["simplex"]⟩ ::
  ⟨"cofaces_of", 20, d_20, topS 41, ["every", "simplex", "other"], ["every", "simplex"]⟩ ::
  ⟨"cofaces", 21, d_21, topS 42, ["facets", "simplex", "every"], ["facets", "simplex"]⟩ ::
  ⟨"components_of", 22, d_22, topS 43, ["facets", "groups", "simplex", "touched", "joined", "group", "vertex"], ["facets"]⟩ ::
  ⟨"components", 23, d_23, topS 44, ["facets"], ["facets"]⟩ ::
  ⟨"_law_town", 24, d_24, topS 46, ["_law_script"], ["_law_script"]⟩ ::
  ⟨"_law_draw", 25, d_25, topS 47, ["_law_script", "_law_town_here", "_law_limit", "_law_at", "_law_left", "_law_number"], ["_law_script", "_law_town_here", "_law_limit"]⟩ ::
  ⟨"_law_outcome", 26, d_26, topS 48, ["_law_way", "_law_arguments", "_law_caught", "_law_result", "error"], ["_law_way", "_law_arguments"]⟩ ::
  ⟨"_law_name", 27, d_27, topS 49, ["_law_caught", "_law_found"], ["_law_caught"]⟩ ::
  ⟨"_law_raises", 28, d_28, topS 50, ["_law_name_here", "_law_names"], ["_law_name_here"]⟩ ::
  ⟨"_law_key", 29, d_29, topS 51, ["_law_simplex_here"], ["_law_simplex_here"]⟩ ::
  ⟨"_law_closure", 30, d_30, topS 52, ["_law_given", "_law_found", "_law_simplex_here", "_law_parts_here", "_law_vertex", "_law_part"], ["_law_given"]⟩ ::
  ⟨"_law_holds", 31, d_31, topS 53, ["_law_one", "_law_other", "_law_vertex"], ["_law_one", "_law_other"]⟩ ::
  ⟨"_law_facets", 32, d_32, topS 54, ["_law_given", "_law_found", "_law_simplex_here", "_law_other"], ["_law_given"]⟩ ::
  ⟨"_law_simplex", 33, d_33, topS 55, ["_law_script", "_law_town_here", "_law_vertices", "_law_most", "_law_size", "_law_drawn", "_law_k"], ["_law_script", "_law_town_here", "_law_vertices", "_law_most"]⟩ ::
  ⟨"_law_complex", 34, d_34, topS 56, ["_law_script", "_law_town_here", "_law_vertices", "_law_most", "_law_limit", "_law_given", "_law_k", "_law_more"], ["_law_script", "_law_town_here", "_law_vertices", "_law_most", "_law_limit"]⟩ ::
  ⟨"_law_faces", 35, d_35, topS 57, ["_law_simplex_here", "_law_vertex", "_law_other"], ["_law_simplex_here"]⟩ ::
  ⟨"_law_call", 36, d_36, topS 58, ["_law_way", "_law_arguments"], ["_law_way", "_law_arguments"]⟩ ::
  ⟨"_law_parts", 37, d_37, topS 59, ["_law_every", "_law_groups", "_law_simplex_here", "_law_near", "_law_joined", "_law_group", "_law_vertex"], ["_law_every"]⟩ ::
  ⟨"law", 38, d_38, topS 60, ["_law_script", "_law_town_here", "_law_facets_here", "_law_every", "_law_numbers", "_law_whole", "_law_simplex_here", "_law_given", "_law_other", "_law_at", "_law_number", "_law_size"], ["_law_script"]⟩ :: []
theorem ptok : PtOk pt rows := ⟨rfl, rfl, rfl, rfl, rfl, rfl, rfl, rfl, rfl, rfl, rfl, rfl, rfl, rfl, rfl, rfl, rfl, rfl, rfl, rfl, rfl, rfl, rfl, rfl, rfl, rfl, rfl, rfl, rfl, rfl, rfl, rfl, rfl, rfl, rfl, rfl, rfl, rfl, rfl, trivial⟩
def row (i : Nat) : Row := rows.getD i ⟨"", 0, d_0, .Pass ⟨0, 0, 0, 0⟩, [], []⟩
set_option maxHeartbeats 4000000
theorem b_0 : BindFact (row 0) := fun _ _ _ _ _ _ us hl => match us, hl with | [_], _ => rfl
theorem b_1 : BindFact (row 1) := fun _ _ _ _ _ _ us hl => match us, hl with | [_], _ => rfl
theorem b_2 : BindFact (row 2) := fun _ _ _ _ _ _ us hl => match us, hl with | [_], _ => rfl
theorem b_3 : BindFact (row 3) := fun _ _ _ _ _ _ us hl => match us, hl with | [_], _ => rfl
theorem b_4 : BindFact (row 4) := fun _ _ _ _ _ _ us hl => match us, hl with | [_], _ => rfl
theorem b_5 : BindFact (row 5) := fun _ _ _ _ _ _ us hl => match us, hl with | [_], _ => rfl
theorem b_6 : BindFact (row 6) := fun _ _ _ _ _ _ us hl => match us, hl with | [_], _ => rfl
theorem b_7 : BindFact (row 7) := fun _ _ _ _ _ _ us hl => match us, hl with | [_, _], _ => rfl
theorem b_8 : BindFact (row 8) := fun _ _ _ _ _ _ us hl => match us, hl with | [_], _ => rfl
theorem b_9 : BindFact (row 9) := fun _ _ _ _ _ _ us hl => match us, hl with | [_], _ => rfl
theorem b_10 : BindFact (row 10) := fun _ _ _ _ _ _ us hl => match us, hl with | [_], _ => rfl
theorem b_11 : BindFact (row 11) := fun _ _ _ _ _ _ us hl => match us, hl with | [_], _ => rfl
theorem b_12 : BindFact (row 12) := fun _ _ _ _ _ _ us hl => match us, hl with | [_], _ => rfl
theorem b_13 : BindFact (row 13) := fun _ _ _ _ _ _ us hl => match us, hl with | [_], _ => rfl
theorem b_14 : BindFact (row 14) := fun _ _ _ _ _ _ us hl => match us, hl with | [_, _], _ => rfl
theorem b_15 : BindFact (row 15) := fun _ _ _ _ _ _ us hl => match us, hl with | [_], _ => rfl
theorem b_16 : BindFact (row 16) := fun _ _ _ _ _ _ us hl => match us, hl with | [_], _ => rfl
theorem b_17 : BindFact (row 17) := fun _ _ _ _ _ _ us hl => match us, hl with | [_], _ => rfl
theorem b_18 : BindFact (row 18) := fun _ _ _ _ _ _ us hl => match us, hl with | [_], _ => rfl
theorem b_19 : BindFact (row 19) := fun _ _ _ _ _ _ us hl => match us, hl with | [_], _ => rfl
theorem b_20 : BindFact (row 20) := fun _ _ _ _ _ _ us hl => match us, hl with | [_, _], _ => rfl
theorem b_21 : BindFact (row 21) := fun _ _ _ _ _ _ us hl => match us, hl with | [_, _], _ => rfl
theorem b_22 : BindFact (row 22) := fun _ _ _ _ _ _ us hl => match us, hl with | [_], _ => rfl
theorem b_23 : BindFact (row 23) := fun _ _ _ _ _ _ us hl => match us, hl with | [_], _ => rfl
theorem b_24 : BindFact (row 24) := fun _ _ _ _ _ _ us hl => match us, hl with | [_], _ => rfl
theorem b_25 : BindFact (row 25) := fun _ _ _ _ _ _ us hl => match us, hl with | [_, _, _], _ => rfl
theorem b_26 : BindFact (row 26) := fun _ _ _ _ _ _ us hl => match us, hl with | [_, _], _ => rfl
theorem b_27 : BindFact (row 27) := fun _ _ _ _ _ _ us hl => match us, hl with | [_], _ => rfl
theorem b_28 : BindFact (row 28) := fun _ _ _ _ _ _ us hl => match us, hl with | [_], _ => rfl
theorem b_29 : BindFact (row 29) := fun _ _ _ _ _ _ us hl => match us, hl with | [_], _ => rfl
theorem b_30 : BindFact (row 30) := fun _ _ _ _ _ _ us hl => match us, hl with | [_], _ => rfl
theorem b_31 : BindFact (row 31) := fun _ _ _ _ _ _ us hl => match us, hl with | [_, _], _ => rfl
theorem b_32 : BindFact (row 32) := fun _ _ _ _ _ _ us hl => match us, hl with | [_], _ => rfl
theorem b_33 : BindFact (row 33) := fun _ _ _ _ _ _ us hl => match us, hl with | [_, _, _, _], _ => rfl
theorem b_34 : BindFact (row 34) := fun _ _ _ _ _ _ us hl => match us, hl with | [_, _, _, _, _], _ => rfl
theorem b_35 : BindFact (row 35) := fun _ _ _ _ _ _ us hl => match us, hl with | [_], _ => rfl
theorem b_36 : BindFact (row 36) := fun _ _ _ _ _ _ us hl => match us, hl with | [_, _], _ => rfl
theorem b_37 : BindFact (row 37) := fun _ _ _ _ _ _ us hl => match us, hl with | [_], _ => rfl
theorem b_38 : BindFact (row 38) := fun _ _ _ _ _ _ us hl => match us, hl with | [_], _ => rfl
theorem bindsok : BindsOk rows := ⟨b_0, b_1, b_2, b_3, b_4, b_5, b_6, b_7, b_8, b_9, b_10, b_11, b_12, b_13, b_14, b_15, b_16, b_17, b_18, b_19, b_20, b_21, b_22, b_23, b_24, b_25, b_26, b_27, b_28, b_29, b_30, b_31, b_32, b_33, b_34, b_35, b_36, b_37, b_38, trivial⟩
theorem nodupok : (rows.map (·.f)).Nodup := by decide +kernel
def rs : List Nat := [1, 2, 3, 4, 5, 6, 7, 8, 9, 10, 11, 12, 13, 14, 15, 16, 17]
def sub (k c : Nat) : Option Bool := if k ∈ rs then some (k == c || c == 0 || c == 18) else none
theorem subok : ∀ k c b, sub k c = some b → k ∈ rs := fun k c b h => by unfold sub at h; split at h <;> first | assumption | cases h
theorem rowsok : rows.all (rowChk (nmOf rows) gl exs cls) = true := by decide +kernel
end R.K02T
end
section
set_option Elab.async false
set_option linter.all false
set_option maxRecDepth 100000
/-! LK02: the law of whole complexes. -/
namespace R.K02T
open PySem R
def TT (n : Nat) : Tab := ⟨evC pt gv sub 1000 n, gv, sub, 1000⟩
theorem e0 (n : Nat) (i : Int) : Gives (TT (n + 1)) 0 [.int i] (.bl true) := is_integer_ok (T := TT n) i
theorem e1 (n : Nat) (i : Int) : Gives (TT (n + 2)) 1 [.int i] (.bl (vtx i)) := is_vertex_ok (T := TT (n + 1)) (e0 n) i
theorem e2t (n : Nat) (s : (List Int)) : Gives (TT (n + 1)) 2 [tupI s] (.bl (ascB iLt s)) := is_ascending_tup (T := TT n) cmp_int_lt s
theorem e2k (n : Nat) (l : List (List Int)) : Gives (TT (n + 1)) 2 [.lst (l.map keyD)] (.bl (ascB kLt l)) := is_ascending_lst (T := TT n) cmp_key_lt l
theorem e3 (n : Nat) (s : (List Int)) : Gives (TT (n + 3)) 3 [tupI s] (.bl (simB s)) := is_simplex_ok (T := TT (n + 2)) (e1 n) (e2t (n + 1)) s
theorem e3l (n : Nat) (xs : List D) : Gives (TT (n + 1)) 3 [.lst xs] (.bl false) := is_simplex_lst (T := TT n) (fa := 2) (fv := 1) xs
theorem e4 (n : Nat) (s : (List Int)) : Gives (TT (n + 1)) 4 [tupI s] (keyD s) := simplex_key_ok (T := TT n) s
theorem e5 (n : Nat) (s : (List Int)) (h : s.length ≤ 16) : GivesO (TT (n + 1)) 5 [tupI s] (lstS (subs s)) := subsets_ok (T := TT n) h
theorem e6 (n : Nat) {d : D} {l : List (List Int)} (hd : SeqS d l) (hl : ∀ s ∈ l, s.length ≤ 4) (hz : l.length ≤ 1000000) : Gives (TT (n + 2)) 6 [d] (tupS (clo l)) := closure_ok (T := TT (n + 1)) (e4 n) (e5 n) hd hl hz
theorem e7 (n : Nat) (a b : (List Int)) : Gives (TT (n + 1)) 7 [tupI a, tupI b] (.bl (cont a b)) := does_contain_ok (T := TT n) a b
theorem e8 (n : Nat) {d : D} {l : List (List Int)} (hd : SeqS d l) (hz : l.length ≤ 1000000) : Gives (TT (n + 2)) 8 [d] (tupS (maxi l)) := maximal_ok (T := TT (n + 1)) (e7 n) (e4 n) hd hz
theorem e9 (n : Nat) (l : List (List Int)) (hz : l.length ≤ 1000000) : Gives (TT (n + 4)) 9 [tupS l] (.bl (goodB l)) :=
  is_good_ok (T := TT (n + 3)) rfl (e3 n) (e4 (n + 2)) (e2k (n + 2)) (fun l h => e8 (n + 1) (.inl rfl) h) (fun l h h' => e6 (n + 1) (.inl rfl) h h') l hz
theorem e10 (n : Nat) {l : List (List Int)} (hz : l.length ≤ 1000000) (h : goodB l = true) : Gives (TT (n + 5)) 10 [tupS l] .non := check_complex_ok (T := TT (n + 4)) (by have := e9 n l hz; rw [h] at this; exact this)
theorem e11 (n : Nat) (l : List (List Int)) (hz : l.length ≤ 1000000) (h0 : l ≠ []) (hs : ∀ s ∈ l, simB s = true) (h60 : (clo l).length ≤ 60) : Gives (TT (n + 4)) 11 [tupS l] (tupS (maxi (clo l))) :=
  generated_ok (T := TT (n + 3)) rfl (e3 n) (fun l h => e8 (n + 1) (.inl rfl) h) (fun l h h' => e6 (n + 1) (.inl rfl) h h') l hz h0 hs h60
theorem e18 (n : Nat) (s : (List Int)) (h : s.length ≤ 1000) : Gives (TT (n + 1)) 18 [tupI s] (tupS (facesL s)) := faces_of_ok (T := TT n) h
section
variable {fs : List (List Int)}
/-- a complex as the law draws it -/
structure Cx (fs : List (List Int)) : Prop where
  cp : Cpx fs
  z : (clo fs).length ≤ 60
theorem Cx.len (h : Cx fs) : fs.length ≤ 60 := Nat.le_trans (nodup_len_le (h.cp.asc.nodup so_kLt) fun s hs => mem_clo_self h.cp.all hs) h.z
theorem Cx.l4 (h : Cx fs) : ∀ s ∈ fs, s.length ≤ 4 := fun s hs => (simB_len (h.cp.all s hs)).2
theorem e12 (n : Nat) (h : Cx fs) : Gives (TT (n + 6)) 12 [tupS fs] (tupS (clo fs)) := simplices_ok (T := TT (n + 5)) (e10 n (by have := h.len; omega) (h.cp.good h.z)) (e6 (n + 3) (.inl rfl) h.l4 (by have := h.len; omega))
theorem e13 (n : Nat) {s : (List Int)} (h : fs.getLast? = some s) (hs : 1 ≤ s.length) : Gives (TT (n + 1)) 13 [tupS fs] (.int ((s.length - 1 : Nat) : Int)) := by
  have := dimension_of_ok (T := TT n) h
  rw [show ((s.length : Int) - 1) = ((s.length - 1 : Nat) : Int) by omega] at this
  exact this
theorem e14 (n : Nat) {s : (List Int)} (ss : List (List Int)) (h : fs.getLast? = some s) (hs : 1 ≤ s.length) (hs4 : s.length ≤ 4) : Gives (TT (n + 2)) 14 [tupS fs, tupS ss] (.tup ((cntsOf s.length ss).map .int)) := by
  have := counts_of_ok (T := TT (n + 1)) (ss := ss) (k := s.length - 1) (by omega) (e13 n h hs)
  rw [show s.length - 1 + 1 = s.length by omega] at this
  exact this
theorem e15 (n : Nat) (hc : Cx fs) {s : (List Int)} (h : fs.getLast? = some s) : Gives (TT (n + 6)) 15 [tupS fs] (.tup ((cntsOf s.length (clo fs)).map .int)) := by
  have hs := simB_len (hc.cp.all s (List.mem_of_getLast? h))
  exact counts_ok (T := TT (n + 5)) (e10 n (by have := hc.len; omega) (hc.cp.good hc.z)) (e6 (n + 3) (.inl rfl) hc.l4 (by have := hc.len; omega)) (e14 (n + 3) _ h hs.1 hs.2)
theorem e16 (n : Nat) (l : List Int) : Gives (TT (n + 1)) 16 [.tup (l.map .int)] (.int (altB l)) := euler_of_ok (T := TT n) l
theorem e17 (n : Nat) (hc : Cx fs) {s : (List Int)} (h : fs.getLast? = some s) : Gives (TT (n + 6)) 17 [tupS fs] (.int (altB (cntsOf s.length (clo fs)))) := by
  have hs := simB_len (hc.cp.all s (List.mem_of_getLast? h))
  exact euler_ok (T := TT (n + 5)) (e10 n (by have := hc.len; omega) (hc.cp.good hc.z)) (e6 (n + 3) (.inl rfl) hc.l4 (by have := hc.len; omega)) (e14 (n + 3) _ h hs.1 hs.2) (e16 (n + 4) _)
theorem e19 (n : Nat) {s : (List Int)} (h : simB s = true) : Gives (TT (n + 4)) 19 [tupI s] (tupS (facesL s)) := faces_ok (T := TT (n + 3)) (by have := e3 n s; rw [h] at this; exact this) (e18 (n + 2) s (by have := (simB_len h).2; omega))
theorem e20 (n : Nat) {every : List (List Int)} (he : ∀ s ∈ every, s.length ≤ 4) (s : (List Int)) : Gives (TT (n + 2)) 20 [tupS every, tupI s] (tupS (cofL every s)) := cofaces_of_ok (T := TT (n + 1)) (e18 n) he s
theorem e21 (n : Nat) (hc : Cx fs) {s : (List Int)} (hs : s ∈ clo fs) : Gives (TT (n + 6)) 21 [tupS fs, tupI s] (tupS (cofL (clo fs) s)) :=
  cofaces_ok (T := TT (n + 5)) (e10 n (by have := hc.len; omega) (hc.cp.good hc.z)) (e6 (n + 3) (.inl rfl) hc.l4 (by have := hc.len; omega)) (by have := e3 (n + 2) s; rw [clo_simB hc.cp.all hs] at this; exact this) hs (e20 (n + 3) (fun s h => (simB_len (clo_simB hc.cp.all h)).2) s)
theorem e21n (n : Nat) (hc : Cx fs) {s : (List Int)} (hs : s ∉ clo fs) : Throws (TT (n + 6)) 21 [tupS fs, tupI s] 2 :=
  cofaces_no (T := TT (n + 5)) (e10 n (by have := hc.len; omega) (hc.cp.good hc.z)) (e6 (n + 3) (.inl rfl) hc.l4 (by have := hc.len; omega)) (e3 (n + 2) s) fun _ => ⟨s, rfl, hs⟩
theorem e21l (n : Nat) (hc : Cx fs) (xs : List D) : Throws (TT (n + 6)) 21 [tupS fs, .lst xs] 2 :=
  cofaces_no (T := TT (n + 5)) (e10 n (by have := hc.len; omega) (hc.cp.good hc.z)) (e6 (n + 3) (.inl rfl) hc.l4 (by have := hc.len; omega)) (e3l (n + 4) xs) nofun
theorem inv_of {s : (List Int)} (h : simB s = true) : InV s ∧ s ≠ [] ∧ s.length ≤ 8 := ⟨simB_inV h, simB_ne h, by have := (simB_len h).2; omega⟩
theorem e23 (n : Nat) (hc : Cx fs) : Gives (TT (n + 6)) 23 [tupS fs] (tupS (srt sLt (comps fs))) :=
  components_ok (T := TT (n + 5)) (e10 n (by have := hc.len; omega) (hc.cp.good hc.z)) (components_of_ok (T := TT (n + 4)) (fun s h => inv_of (hc.cp.all s h)) (by have := hc.len; omega))
end
theorem e25 (n : Nat) : Draws (TT (n + 1)) 25 := fun ns k w lim h1 h2 h3 h4 h5 => draw_ok (T := TT n) h1 h2 h3 h4 h5
theorem e27 (n : Nat) : Gives (TT (n + 1)) 27 [.exc 2 []] (.int 1) := fun w => (run_ret (T := TT n) (d := d_27) (ds := [.exc 2 []]) rfl (by kernel_rfl) : runD (TT n) d_27 [.exc 2 []] w = _)
theorem e28 (n : Nat) : Gives (TT (n + 1)) 28 [.str "simplex"] (.tup [.str "raised", .int 1]) := raises_simplex (T := TT n)
theorem e29 (n : Nat) (s : (List Int)) : Gives (TT (n + 1)) 29 [tupI s] (keyD s) := law_key_ok (T := TT n) s
theorem e30 (n : Nat) {d : D} {l : List (List Int)} (hd : SeqS d l) (hl : ∀ s ∈ l, s.length ≤ 4) (hz : l.length ≤ 100000) (h63 : (clo l).length < 63) : GivesO (TT (n + 2)) 30 [d] (lstS (clo l)) := law_closure_ok (T := TT (n + 1)) (e29 n) hd hl hz h63
theorem e31 (n : Nat) (a b : (List Int)) : Gives (TT (n + 1)) 31 [tupI a, tupI b] (.bl (cont a b)) := law_holds_ok (T := TT n) a b
theorem e32 (n : Nat) {l : List (List Int)} (hn : ∀ s ∈ l, s ≠ []) (h63 : (dd l).length < 63) : Gives (TT (n + 2)) 32 [lstS l] (tupS (lfac l)) := law_facets_ok (T := TT (n + 1)) (e31 n) (e29 n) hn h63
theorem e33 (n : Nat) : DrawsS (TT (n + 2)) 33 := fun ns k w vs most h1 h2 h3 h4 h5 h6 h7 => law_simplex_ok (T := TT (n + 1)) (e25 n) h1 h2 h3 h4 h5 h6 h7
theorem e34 (n : Nat) : DrawsC (TT (n + 3)) 34 := fun ns k w vs most limit h1 h2 h3 h4 h5 h6 h7 h8 h9 =>
  law_complex_ok (T := TT (n + 2)) (e25 (n + 1)) (e33 n) (fun l a b c => e30 n (.inr rfl) a (by omega) c) (fun l a b => e32 n a b) h1 h2 h3 h4 h5 h6 h7 h8 h9
theorem e35 (n : Nat) {s : (List Int)} (h : simB s = true) : GivesO (TT (n + 1)) 35 [tupI s] (lstS (facesL s)) := by
  have := law_faces_ok (T := TT n) (s := s) (by have := (simB_len h).2; omega) (fun h1 => lfaces_ne (simB_asc h) h1)
  rw [lfaces_eq (simB_asc h)] at this
  exact this
theorem e36 (n : Nat) {a b : D} (h : Throws (TT (n + 6)) 21 [a, b] 2) : Throws (TT (n + 7)) 36 [.int 0, .tup [a, b]] 2 := fun w => by
  show runD (TT (n + 6)) d_36 [.int 0, .tup [a, b]] w = some (.exc 2 [] w)
  refine run_exc rfl (ES.stop ?_ nofun)
  show evS _ (.ret _) _ _ = _
  rw [evS, show varOf (.call 21 (.cons (.idx (.var 1) (.int 0)) (.cons (.idx (.var 1) (.int 1)) .nil))) = none from rfl]
  dsimp only
  rw [show evE (TT (n + 6)) (.call 21 (.cons (.idx (.var 1) (.int 0)) (.cons (.idx (.var 1) (.int 1)) .nil))) (startE d_36.slots [.int 0, .tup [a, b]]) w = some (.exc 2 [] w) from EX.call (EL.cons (E.idx (z := a) (E.var rfl) E.int rfl) (EL.cons (E.idx (z := b) (E.var rfl) E.int rfl) EL.nil)) rfl (h w)]
  rfl
theorem e26 (n : Nat) {a b : D} (h : Throws (TT (n + 6)) 21 [a, b] 2) : Gives (TT (n + 8)) 26 [.int 0, .tup [a, b]] (.tup [.str "raised", .int 1]) := outcome_raise (T := TT (n + 7)) (e36 n h) (show sub 2 0 = some true by decide +kernel) (e27 (n + 6))
theorem e37 (n : Nat) {fs : List (List Int)} (hs : ∀ s ∈ fs, simB s = true) (hz : fs.length ≤ 100) : Gives (TT (n + 1)) 37 [lstS fs] (tupS (srt sLt (comps fs))) := law_parts_ok (T := TT n) (fun s h => inv_of (hs s h)) hz
end R.K02T
end
section
set_option Elab.async false
set_option linter.all false
set_option maxRecDepth 100000
/-! LK02b: the law's own body. -/
namespace R.K02T
open PySem R
theorem alt_step (i : Nat) (l : List Int) : ∀ (m : List Int) (acc : Int), l.zipIdx.foldl (fun a p => a + (if p.2 % 2 = 0 then p.1 else 0 - p.1)) acc = acc + altB l := by
  intro _ acc
  have gen : ∀ (l : List Int) (i : Nat) (acc : Int), (l.zipIdx i).foldl (fun a p => a + (if p.2 % 2 = 0 then p.1 else 0 - p.1)) acc = acc + altG i l := by
    intro l
    induction l with
    | nil => intro i acc; simp [altG]
    | cons n l ih =>
      intro i acc
      rw [List.zipIdx_cons, List.foldl_cons, ih]
      simp only [altG]
      split <;> omega
  exact gen l 0 acc
theorem last_of {fs : List (List Int)} (h : fs ≠ []) : ∃ s, fs.getLast? = some s := by
  cases e : fs.getLast? with
  | none => exact absurd (List.getLast?_eq_none_iff.mp e) h
  | some s => exact ⟨s, rfl⟩
theorem idx_last {fs : List (List Int)} {s : (List Int)} (h : fs.getLast? = some s) : idxD (tupS fs) (.int (-1)) = some (tupI s) := by
  obtain ⟨ys, rfl⟩ := List.getLast?_eq_some_iff.mp h
  show L2.atI ((ys ++ [s]).map tupI) (-1) = _
  rw [List.map_append]
  exact L2.atI_last _ _
theorem same_out : cmpD .ne (.tup [.str "raised", .int 1]) (.tup [.str "raised", .int 1]) = some false := by kernel_rfl
theorem same_out' : cmpD .eq (.tup [.str "raised", .int 1]) (.tup [.str "raised", .int 1]) = some true := by kernel_rfl
/-- the law's end, behind its last draw -/
theorem main_end {ns : List Int} {fs sel other : List (List Int)} {x4 x5 x6 x7 x9 x10 : Sl} {oth : (List Int)} (hc : Cx fs) {w : Wd} (hw : w.length = 1) :
    GX (TT 19) (tl (tl (tl (tl (tl (tl (tl (tl (tl (tl (tl (tl (tl (tl (tl (tl (tl (tl (tl d_38.body))))))))))))))))))) [.val (lstI ns), .val (.cell 0), .val (tupS fs), .val (lstS (clo fs)), x4, x5, x6, x7, .val (tupI oth), x9, x10, .no] w := by
  obtain ⟨s0, r0, h0⟩ : ∃ s0 r0, clo fs = s0 :: r0 := List.exists_cons_of_ne_nil fun e => by
    obtain ⟨s, r, rfl⟩ := List.exists_cons_of_ne_nil hc.cp.ne
    have := mem_clo_self hc.cp.all (s := s) List.mem_cons_self
    rw [e] at this; cases this
  have i0 : idxD (lstS (clo fs)) (.int ((0 : Nat) : Int)) = some (tupI s0) := idx_lst (by rw [h0]; rfl)
  refine GX.no (E.and (E.cmp (E.var rfl) (E.var rfl) (cmp_notin_lst (e := tupI) (by decide) oth (clo fs))) fun h => E.cmp (E.call (EL.cons E.int (EL.cons (E.tup (EL.cons (E.var rfl) (EL.cons (E.var rfl) EL.nil)) rfl) EL.nil)) rfl (e26 11 (e21n 11 hc (by simpa [memB] using h)) w) rfl) (E.call (EL.cons E.str EL.nil) rfl (e28 18 w) rfl) same_out) (by simp) ?_
  exact GX.ret (E.cmp (E.call (EL.cons E.int (EL.cons (E.tup (EL.cons (E.var rfl) (EL.cons (E.blt (E.idx (E.var rfl) E.int i0) rfl) EL.nil)) rfl) EL.nil)) rfl (e26 11 (e21l 11 hc _) w) rfl) (E.call (EL.cons E.str EL.nil) rfl (e28 18 w) rfl) same_out') rfl hw
theorem main_mid {ns : List Int} {fs : List (List Int)} (hz : ns.length ≤ 63) {x4 x5 x6 x9 x10 : Sl} (h6 : ∀ d, x6 ≠ Sl.own d) (hc : Cx fs) {k : Nat} (hk : k ≤ 400) {w : Wd} (ht : Town ns k w) :
    GX (TT 19) (tl (tl (tl (tl (tl (tl (tl (tl (tl (tl (tl (tl (tl (tl d_38.body)))))))))))))) [.val (lstI ns), .val (.cell 0), .val (tupS fs), .val (lstS (clo fs)), x4, x5, x6, .no, .no, x9, x10, .no] w := by
  have no6 : noOwn [.val (lstI ns), .val (.cell 0), .val (tupS fs), .val (lstS (clo fs)), x4, x5, x6, .no, .no, x9, x10, .no] [6] = true := by
    cases x6 with
    | own d => exact absurd rfl (h6 d)
    | _ => rfl
  obtain ⟨sel, w1, l1, l2, l3, k1, t1, b1⟩ := lc_sel (f := lcT (TT 19) [6] (.one 6) (.or (.cmp .isin (.var 6) (.var 2)) (.cmp .eq (.call 25 (.cons (.var 0) (.cons (.var 1) (.cons (.int 2) .nil)))) (.int 0))) (.var 6) [.val (lstI ns), .val (.cell 0), .val (tupS fs), .val (lstS (clo fs)), x4, x5, x6, .no, .no, x9, x10, .no])
    (e := tupI) (u := tupI) (p := fun s => s ∈ fs) (fun i w => ∃ k', Town ns k' w ∧ k' ≤ k + i) (l := clo fs) (i := 0) (w := w) ⟨k, ht, by omega⟩ (by
      rintro s hs j w hj ⟨k', t, b⟩
      by_cases hsf : memB s fs = true
      · exact ⟨true, w, turnW rfl (E.to (E.or (q := true) (E.cmp (E.var rfl) (E.var rfl) (cmp_in_tup (e := tupI) (by decide) s fs)) fun h => by rw [hsf] at h; cases h) (by rw [hsf]; rfl)) (E.var rfl) rfl, fun _ => rfl, k', t, by omega⟩
      · have hsf : memB s fs = false := by simpa using hsf
        obtain ⟨r, w', c, _, _, t'⟩ := e25 18 ns k' w 2 (by omega) (by have := hc.z; omega) (by decide) (by decide) t
        have cond : E (TT 19) (.or (.cmp .isin (.var 6) (.var 2)) (.cmp .eq (.call 25 (.cons (.var 0) (.cons (.var 1) (.cons (.int 2) .nil)))) (.int 0))) [.val (lstI ns), .val (.cell 0), .val (tupS fs), .val (lstS (clo fs)), x4, x5, .val (tupI s), .no, .no, x9, x10, .no] w .val (.bl (decide (r = 0))) w' := by
          have h1 : E (TT 19) (.cmp .isin (.var 6) (.var 2)) [.val (lstI ns), .val (.cell 0), .val (tupS fs), .val (lstS (clo fs)), x4, x5, .val (tupI s), .no, .no, x9, x10, .no] w .val (.bl false) w := E.to (E.cmp (E.var rfl) (E.var rfl) (cmp_in_tup (e := tupI) (by decide) s fs)) (by rw [hsf])
          have h2 : E (TT 19) (.cmp .eq (.call 25 (.cons (.var 0) (.cons (.var 1) (.cons (.int 2) .nil)))) (.int 0)) [.val (lstI ns), .val (.cell 0), .val (tupS fs), .val (lstS (clo fs)), x4, x5, .val (tupI s), .no, .no, x9, x10, .no] w .val (.bl (decide (r = 0))) w' := E.cmp (E.call (EL.cons (E.var rfl) (EL.cons (E.var rfl) (EL.cons E.int EL.nil))) rfl c rfl) E.int (cmp_eq (e := D.int) (by decide) r 0)
          refine ⟨?_, nofun⟩
          rw [evE, h1.eq]
          exact h2.eq
        by_cases hr : r = 0
        · exact ⟨true, w', turnW rfl (E.to cond (by simp [hr])) (E.var rfl) rfl, fun _ => rfl, k' + 1, t', by omega⟩
        · exact ⟨false, w', turnN rfl (E.to cond (by simp [hr])), fun h => absurd (memB_iff.mpr h) (by rw [hsf]; decide), k' + 1, t', by omega⟩)
  have hsel : ∀ s ∈ sel, s ∈ clo fs := fun s h => l2.subset h
  have hall : ∀ s ∈ sel, simB s = true := fun s h => clo_simB hc.cp.all (hsel s h)
  have hfs : ∀ s ∈ fs, s ∈ sel := fun s h => l3 s (mem_clo_self hc.cp.all h) h
  have hz2 : sel.length ≤ 60 := Nat.le_trans l2.length_le hc.z
  obtain ⟨f0, hf0⟩ := List.exists_mem_of_ne_nil fs hc.cp.ne
  have c1 : clo sel = clo fs := clo_between hfs hsel
  have c2 : clo (sel.reverse ++ sel.take 2) = clo fs := clo_between (fun s h => by simp [hfs s h]) fun s h => by
    rcases List.mem_append.mp h with h | h
    · exact hsel s (by simpa using h)
    · exact hsel s (List.mem_of_mem_take h)
  have g1 := e11 15 sel (by omega) (List.ne_nil_of_mem (hfs f0 hf0)) hall (by rw [c1]; exact hc.z) w1
  have g2 := e11 15 (sel.reverse ++ sel.take 2) (by simp; omega) (List.ne_nil_of_mem (by simp [hfs f0 hf0] : f0 ∈ sel.reverse ++ sel.take 2)) (fun s h => by
    rcases List.mem_append.mp h with h | h
    · exact hall s (by simpa using h)
    · exact hall s (List.mem_of_mem_take h)) (by rw [c2]; exact hc.z) w1
  rw [c1, hc.cp.maxi_clo] at g1
  rw [c2, hc.cp.maxi_clo] at g2
  have hz3 := hc.z
  obtain ⟨oth, w2, k2, c3, d3, t2, b2⟩ := e33 17 ns k1 w1 8 4 (by omega) (by omega) (by decide) (by decide) (by decide) (by decide) t1
  refine GX.asgF (k := .val) (x := tupS sel) (E.blt (E.lcRaw (EI.iv (E.var rfl) rfl rfl) no6 l1) rfl) rfl rfl ?_
  refine GX.no (E.or (E.cmp (E.call (EL.cons (E.var rfl) EL.nil) rfl g1 rfl) (E.var rfl) (cmp_ne (e := tupS) (by decide) fs fs)) fun _ => E.cmp (E.call (EL.cons (E.bin (k2 := .val) (z := tupS (sel.reverse ++ sel.take 2)) (E.stp (k2 := .val) (z := tupS sel.reverse) (E.var rfl) ?_) (E.slce_to (k2 := .val) (z := tupS (sel.take 2)) (E.var rfl) rfl E.int ?_) ?_) EL.nil) rfl g2 rfl) (E.var rfl) (cmp_ne (e := tupS) (by decide) fs fs)) (by simp) ?_
  · simp [stpD, tupS]
  · have := cut_to 2 (sel.map tupI)
    show some (Kd.val, D.tup (cutD (sel.map tupI) none (some 2))) = _
    rw [show (some (2 : Int)) = some ((2 : Nat) : Int) from rfl, this, ← List.map_take]; rfl
  · show binD .add (.tup _) (.tup _) = _
    rw [add_tup _ _ (by simp; omega), ← List.map_append]; rfl
  · refine GX.asgF (k := .val) (x := tupI oth) (E.call (EL.cons (E.var rfl) (EL.cons (E.var rfl) (EL.cons E.int (EL.cons E.int EL.nil)))) rfl c3 rfl) rfl rfl ?_
    exact main_end (sel := []) (other := []) hc t2.len
theorem main_for {ns : List Int} {fs : List (List Int)} {x4 x5 : Sl} (hc : Cx fs) {w : Wd} {x9 x10 : Sl} (hn : ∀ x6, (∀ d, x6 ≠ Sl.own d) → GX (TT 19) (tl (tl (tl (tl (tl (tl (tl (tl (tl (tl (tl (tl (tl (tl d_38.body)))))))))))))) [.val (lstI ns), .val (.cell 0), .val (tupS fs), .val (lstS (clo fs)), x4, x5, x6, .no, .no, x9, x10, .no] w) :
    GX (TT 19) (tl (tl (tl (tl (tl (tl (tl (tl (tl (tl (tl (tl (tl d_38.body))))))))))))) [.val (lstI ns), .val (.cell 0), .val (tupS fs), .val (lstS (clo fs)), x4, x5, .no, .no, .no, x9, x10, .no] w := by
  refine GX.for (l := clo fs) (e' := tupI) (fun pre env => ∃ x6, (∀ d, x6 ≠ Sl.own d) ∧ env = [.val (lstI ns), .val (.cell 0), .val (tupS fs), .val (lstS (clo fs)), x4, x5, x6, .no, .no, x9, x10, .no]) (EI.iv (E.var rfl) rfl rfl) ⟨.no, fun d h => (by cases h), rfl⟩ ?_ ?_
  · rintro pre s post env e ⟨x6, h6, rfl⟩
    have hs : s ∈ clo fs := by rw [e]; simp
    have hb := clo_simB hc.cp.all hs
    refine ⟨_, _, rfl, ES.no (E.cmp (E.call (EL.cons (E.var rfl) EL.nil) rfl (e19 15 hb w) rfl) (E.blt (k2 := .val) (E.call (EL.cons (E.var rfl) EL.nil) rfl (e35 18 hb w) rfl) rfl) (cmp_ne (e := tupS) (by decide) (facesL s) (facesL s))) (by simp) (ES.no (E.cmp (E.call (EL.cons (E.var rfl) (EL.cons (E.var rfl) EL.nil)) rfl (e21 13 hc hs w) rfl) (E.blt (k2 := .val) (E.lc (l := clo fs) (e' := tupI) (pr := fun o => memB s (facesL o)) (u := tupI) (EI.iv (E.var rfl) rfl rfl) rfl fun o ho => Turn.mk' (k := .val) rfl (E.cmp (E.var rfl) (E.call (EL.cons (E.var rfl) EL.nil) rfl (e35 18 (clo_simB hc.cp.all ho) w) rfl) (cmp_in_lst (e := tupI) (by decide) s (facesL o))) fun _ => ⟨E.var rfl, rfl⟩) rfl) (cmp_ne (e := tupS) (by decide) (cofL (clo fs) s) (cofL (clo fs) s))) (by simp) ES.nil), .val (tupI s), fun d h => (by cases h), rfl⟩
  · rintro env' ⟨x6, h6, rfl⟩
    exact hn x6 h6
theorem main_sum {ns : List Int} {fs : List (List Int)} (hc : Cx fs) {w : Wd} (hn : ∀ x4 x5 x6 x9 x10, (∀ d, x6 ≠ Sl.own d) → GX (TT 19) (tl (tl (tl (tl (tl (tl (tl (tl (tl (tl (tl (tl (tl (tl d_38.body)))))))))))))) [.val (lstI ns), .val (.cell 0), .val (tupS fs), .val (lstS (clo fs)), x4, x5, x6, .no, .no, x9, x10, .no] w) :
    GX (TT 19) (tl (tl (tl (tl (tl (tl (tl d_38.body))))))) [.val (lstI ns), .val (.cell 0), .val (tupS fs), .val (lstS (clo fs)), .no, .no, .no, .no, .no, .no, .no, .no] w := by
  obtain ⟨s, hs⟩ := last_of hc.cp.ne
  have hl := simB_len (hc.cp.all s (List.mem_of_getLast? hs))
  have hi := idx_last hs
  generalize hcn : cntsOf s.length (clo fs) = cn
  have g15 := e15 13 hc hs
  have g17 := e17 13 hc hs
  rw [hcn] at g15 g17
  refine GX.asgF (k := .own) (x := lstI cn) (E.to (E.lcA (l := List.range s.length) (e' := fun i : Nat => D.int (1 + (i : Nat))) (u := fun i : Nat => D.int ((((clo fs).filter fun t => decide (t.length = i + 1)).length : Nat) : Int)) (EI.ir (EL.cons E.int (EL.cons (E.bin (k2 := .val) (z := .int ((s.length + 1 : Nat) : Int)) (E.blt (k2 := .val) (z := .int (s.length : Nat)) (E.idx (E.var rfl) (E.neg E.int) hi) ?_) E.int ?_) EL.nil)) ?_) rfl fun i _ => Turn.all rfl (E.blt (k2 := .val) (E.lc (l := clo fs) (e' := tupI) (pr := fun t => decide (t.length = i + 1)) (u := tupI) (EI.iv (E.var rfl) rfl rfl) rfl fun t _ => Turn.mk' (k := .val) rfl (E.cmp (E.blt (k2 := .val) (z := .int (t.length : Nat)) (E.var rfl) ?_) (E.var rfl) ?_) fun _ => ⟨E.var rfl, rfl⟩) ?_) rfl) ?_) rfl rfl ?_
  · simp [bltD, tupI]
  · simp [binD]
  · simp only [rangeD]
    rw [if_pos (by omega)]
    congr 2
    rw [show (((s.length + 1 : Nat) : Int) - 1).toNat = s.length by omega]
  · simp [bltD, tupI]
  · rw [cmp_eq (e := D.int) (by decide)]
    congr 1
    rw [decide_eq_decide]
    omega
  · simp [bltD]
  · rw [← hcn]; unfold cntsOf lstI; rw [List.map_map]; rfl
  refine GX.asgF (k := .val) (x := .int 0) E.int rfl rfl ?_
  refine GX.for (l := cn.zipIdx) (e' := fun p => .tup [.int (p.2 : Nat), .int p.1]) (fun pre env => ∃ x9 x10, env = [.val (lstI ns), .val (.cell 0), .val (tupS fs), .val (lstS (clo fs)), .val (lstI cn), .val (.int (pre.foldl (fun a p => a + (if p.2 % 2 = 0 then p.1 else 0 - p.1)) 0)), .no, .no, .no, x9, x10, .no]) (EI.ie (EL.cons (E.var rfl) EL.nil) (congrArg some (enum2_map D.int cn))) ⟨.no, .no, rfl⟩ ?_ ?_
  · rintro pre p post env e ⟨x9, x10, rfl⟩
    have md : binD .mod (.int (p.2 : Nat)) (.int 2) = some (.val, .int ((p.2 % 2 : Nat) : Int)) := by simp [binD]
    have q : (if (decide (((p.2 % 2 : Nat) : Int) = 0)) = true then D.int p.1 else D.int (0 - p.1)) = .int (if p.2 % 2 = 0 then p.1 else 0 - p.1) := by
      by_cases h : p.2 % 2 = 0
      · simp [h]
      · rw [if_neg h, if_neg]; simp; omega
    refine ⟨_, _, rfl, ES.asgF (k := .val) (x := .int ((pre ++ [p]).foldl (fun a p => a + (if p.2 % 2 = 0 then p.1 else 0 - p.1)) 0)) (E.bin (k2 := .val) (y := .int (if p.2 % 2 = 0 then p.1 else 0 - p.1)) (E.var rfl) (E.to (E.ite (k1 := .val) (x := .int p.1) (y := .int (0 - p.1)) (E.cmp (E.bin (k2 := .val) (E.var rfl) E.int md) E.int (cmp_eq (e := D.int) (by decide) ((p.2 % 2 : Nat) : Int) 0)) (fun _ => E.var rfl) fun _ => E.bin (k2 := .val) E.int (E.var rfl) rfl) q) ?_) rfl rfl ES.nil, _, _, rfl⟩
    rw [List.foldl_append]; rfl
  · rintro env' ⟨x9, x10, rfl⟩
    rw [alt_step 0 cn [] 0, show (0 : Int) + altB cn = altB cn by omega]
    refine GX.no (E.or (E.cmp (E.call (EL.cons (E.var rfl) EL.nil) rfl (g15 w) rfl) (E.blt (k2 := .val) (E.var rfl) rfl) (cmp_ne (e := tupI) (by decide) cn cn)) fun _ => E.cmp (E.call (EL.cons (E.var rfl) EL.nil) rfl (g17 w) rfl) (E.var rfl) (cmp_ne (e := D.int) (by decide) (altB cn) (altB cn))) (by simp) ?_
    exact main_for hc fun x6 h6 => hn _ _ x6 x9 x10 h6
theorem main_rest {ns : List Int} (hz : ns.length ≤ 63) {fs : List (List Int)} (hc : Cx fs) (h40 : (clo fs).length ≤ 40) {k : Nat} (hk : k ≤ 400) {w : Wd} (ht : Town ns k w) :
    GX (TT 19) (tl (tl (tl (tl d_38.body)))) [.val (lstI ns), .val (.cell 0), .val (tupS fs), .no, .no, .no, .no, .no, .no, .no, .no, .no] w := by
  have g12 := e12 13 hc w
  have g23 := e23 13 hc w
  have g37 := e37 18 (fs := clo fs) (fun s hs => clo_simB hc.cp.all hs) (by omega) w
  rw [comps_clo hc.cp.all] at g37
  refine GX.asgF (k := .own) (x := lstS (clo fs)) (E.call (EL.cons (E.var rfl) EL.nil) rfl (e30 17 (.inl rfl) hc.l4 (by have := hc.len; omega) (by omega) w) rfl) rfl rfl ?_
  refine GX.no (E.or (E.cmp (E.call (EL.cons (E.var rfl) EL.nil) rfl g12 rfl) (E.blt (k2 := .val) (E.var rfl) rfl) (cmp_ne (e := tupS) (by decide) (clo fs) (clo fs))) fun _ => E.cmp (E.call (EL.cons (E.var rfl) EL.nil) rfl g23 rfl) (E.call (EL.cons (E.var rfl) EL.nil) rfl g37 rfl) (cmp_ne (e := tupS) (by decide) (srt sLt (comps fs)) (srt sLt (comps fs)))) (by simp) ?_
  exact main_sum hc fun x4 x5 x6 x9 x10 h6 => main_mid hz h6 hc hk ht
theorem e24 (n : Nat) (ns : List Int) (hz : ns.length ≤ 1000) : GivesO (TT (n + 1)) 24 [lstI ns] (.lst (((0 : Int) :: ns).map .int)) := town_ok (T := TT n) ns hz
theorem main02 : ∀ ns : List Int, ns.length ≤ 63 → ∃ w', evC pt gv sub 1000 20 38 [.lst (ns.map D.int)] [] = some (.ok (.val, .bl true) w') := fun ns hz => by
  have t0 : Town ns 0 [.lst (((0 : Int) :: ns).map .int)] := ⟨ns, rfl, rfl⟩
  obtain ⟨given, w1, k1, c1, d1, t1, b1⟩ := e34 16 ns 0 _ 8 4 40 (by omega) (by decide) (by decide) (by decide) (by decide) (by decide) (by decide) (by decide) t0
  have hs : ∀ s ∈ given, simB s = true := fun s h => (d1.all s h).simB
  obtain ⟨cp, ce⟩ := lfac_cpx d1.ne hs
  have lim : (clo (lfac given)).length ≤ 40 := by rw [ce]; have := d1.lim; omega
  have hg : GX (TT 19) d_38.body [.val (lstI ns), .no, .no, .no, .no, .no, .no, .no, .no, .no, .no, .no] [] := by
    refine GX.next (ES.asgO (E.call (EL.cons (E.var rfl) EL.nil) rfl (e24 18 ns (by omega) []) rfl)) ?_
    refine GX.next (ES.shr rfl) ?_
    refine GX.asgF (k := .val) (x := tupS (lfac given)) (E.call (EL.cons (E.var rfl) (EL.cons (E.var rfl) (EL.cons E.int (EL.cons E.int (EL.cons E.int EL.nil))))) rfl c1 rfl) rfl rfl ?_
    exact main_rest hz ⟨cp, by omega⟩ lim (by omega) t1
  obtain ⟨w', _, hw⟩ := hg
  refine ⟨trim [] w' [.bl true], ?_⟩
  show runD (TT 19) d_38 [lstI ns] [] = _
  unfold runD
  rw [if_pos (show [lstI ns].length = d_38.pars from rfl), show evS (TT 19) d_38.body (startE d_38.slots [lstI ns]) [] = _ from hw]
  rfl
end R.K02T
end
open PySem PySem.W PyProof.Rows
set_option Elab.async false
set_option maxRecDepth 100000 in
set_option maxHeartbeats 0 in
theorem PySem.Challenge.cw_morsematch_k02_whole_complexes_holds : PySem.Challenge.rw_morsematch_k02_whole_complexes.Holds := by
  w_on; o_law; k_head; (case hw => w_witness2)
  k_fill
  refine R.law_endT (l := PySem.Challenge.rw_morsematch_k02_whole_complexes) (n := 63) (m := 20) (fuel := 1000) (x := "_law_script") (rows := R.K02T.rows) (gl := R.K02T.gl) (exs := R.K02T.exs) (cls := R.K02T.cls) (pt := R.K02T.pt) (gv := R.K02T.gv) (rs := R.K02T.rs) (sub := R.K02T.sub)
    rfl (by decide) rfl ⟨rfl, by decide, by decide⟩ (fun w h Y => PySem.W.kIn_of Y) R.K02T.nodupok R.K02T.ptok R.K02T.bindsok R.K02T.rowsok R.K02T.subok (R.K02T.row 38) (List.mem_of_getElem? (i := 38) (by rfl)) rfl rfl R.K02T.main02 ?D ?GL ?C
  case D =>
    intro w
    unfold R.K02T.rows
    repeat' (first | exact trivial | refine R.defs_cons rfl rfl rfl rfl ?_)
  case GL =>
    intro w
    unfold R.K02T.gl
    repeat' (first | exact trivial | refine R.gl_int rfl rfl ?_ | refine R.gl_str rfl rfl ?_)
  case C => intro w; kernel_rfl
