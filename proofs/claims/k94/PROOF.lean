import PyProof.Rows.All
import Wide.All
import OpenK.AllK
import Wide.FinOn
import KE.DataCmp
import KE.DatumOrd
import KE.SortData
import HandS.ForMost
import HandS.Zip
import HandS.TupMul
import HandS.TupAny
import HandS.Style
import HandS.IsInst
import KE.KDictKeyed
import KE.DataEq
import KE.DataAny
import KE.DataFind
import KE.DataIsa
import KE.DataMinMax
import HandS.RaiseMore
import KE.KDictSum
import KE.KDictCopyH
import HandS.ExcValue
import KE.GoesEnum
import KE.GoesZip
import HandS.Comp
import HandS.DictComp
import PyProof.Rows.TupDisplay
import KE.DatumMoreOrd
import PySem.Challenge.RW_cubeyard_k94_whole_fewest_cells_that_mee
set_option Elab.async false
set_option maxRecDepth 100000
section
set_option autoImplicit false
set_option linter.all false
set_option maxRecDepth 100000
/-! The core language and its evaluator: values are data, locals stand in slots, a slot may own its list or dict. -/
namespace Ky
open PySem PySem.W

abbrev D := PyData
/-- the longest list -/
def SL : Nat := 16777216
/-- the most turns of a while -/
def WF : Nat := 1000000000

/-- what a slot holds: nothing; a value that may be shared and never changes; a list or dict of its own -/
inductive Sl where
  | emp | fz (d : D) | ow (d : D)
abbrev En := List Sl
def Sl.dat : Sl → D
  | .emp => .none
  | .fz d => d
  | .ow d => d
def Sl.thaw : Sl → Sl
  | .ow d => .fz d
  | s => s
def peek (env : En) (i : Nat) : Option D :=
  match env[i]? with
  | some (.fz d) => some d
  | some (.ow d) => some d
  | _ => none

inductive Ty where
  | int | bool | str | tup | lst
inductive P1 where
  | neg | abs | len | sorted | mn | mx | sum | all | any | tup | lst | int | str | isN | notN | isB (b : Bool) | notB (b : Bool) | isI (t : Ty) | rev | dct | vals | sset | lset | mxv
inductive P2 where
  | add | sub | mul | fdiv | mod | pow | lt | le | gt | ge | eq | ne | isin | notin | ix | mn2 | mx2 | get | slLo | slHi | index | count | join | zipl
inductive P3 where
  | get | slLH | mn3
inductive Mu where
  | append | pop | popK | update | remove | extend | set | addI

/-- does it give a new list or dict? -/
def P1.fresh : P1 → Bool
  | .sorted => true
  | .lst => true
  | .rev => true
  | .dct => true
  | .vals => true
  | .sset => true
  | _ => false
def P2.fresh : P2 → Bool
  | .add => true
  | .slLo => true
  | .slHi => true
  | _ => false
def P3.fresh : P3 → Bool
  | .slLH => true
  | _ => false
def Sl.mk (b : Bool) (d : D) : Sl := if b then .ow d else .fz d

/-! ### what the operations give -/
def dok (d : D) : Bool := decide (d.depth ≤ 64)
def small (i : Int) : Bool := decide (-(2 ^ 64) < i) && decide (i < 2 ^ 64)
def seqOf : D → Option (List D)
  | .list xs => some xs
  | .tuple xs => some xs
  | .dict kvs => some (kvs.map (·.1))
  | _ => none
def intsOf : List D → Option (List Int)
  | [] => some []
  | .int i :: r => (intsOf r).map (i :: ·)
  | _ => none
def boolsOf : List D → Option (List Bool)
  | [] => some []
  | .bool b :: r => (boolsOf r).map (b :: ·)
  | _ => none
def strsOf : List D → Option (List Str)
  | [] => some []
  | .str b :: r => (strsOf r).map (b :: ·)
  | _ => none
/-- every two are alike -/
def allAlike : List D → Bool
  | [] => true
  | x :: r => alike x x && r.all (alike x) && r.all (fun y => alike y x) && allAlike r
def isTup1 : D → Bool
  | .tuple (_ :: _) => true
  | _ => false
def notTN : D → Bool
  | .tuple _ => false
  | .none => false
  | _ => true
def sortable (xs : List D) : Bool := allAlike xs && (xs.all isTup1 || xs.all notTN) && xs.all dok && decide (xs.length ≤ SL)
def sortD (xs : List D) : List D := xs.mergeSort (dataLe false id)
def notNone : D → Bool
  | .none => false
  | _ => true
def least (xs : List D) : Option D :=
  match xs with
  | [] => none
  | x :: r => if allAlike (x :: r) && (x :: r).all notNone && (x :: r).all dok then some (minD x r) else none
def greatest (xs : List D) : Option D :=
  match xs with
  | [] => none
  | x :: r => if allAlike (x :: r) && (x :: r).all notNone && (x :: r).all dok then some (maxD x r) else none
/-! what may be a key: a tuple of numbers, texts, None, tuples of these -/
mutual
def keyIn : D → Bool
  | .none => true
  | .bool _ => true
  | .int _ => true
  | .str _ => true
  | .tuple xs => keyAll xs
  | .list _ => false
  | .dict _ => false
def keyAll : List D → Bool
  | [] => true
  | x :: r => keyIn x && keyAll r
end
def isTuple : D → Bool
  | .tuple _ => true
  | _ => false
def keyable (d : D) : Bool := isTuple d && keyIn d && decide (d.depth ≤ 8)
def dlook (kvs : List (D × D)) (k : D) : Option D := (kvs.find? fun p => PyData.eqv p.1 k).map (·.2)
def dhas (kvs : List (D × D)) (k : D) : Bool := kvs.any fun p => PyData.eqv p.1 k
def dput (kvs : List (D × D)) (k v : D) : List (D × D) :=
  if dhas kvs k then kvs.map fun p => if PyData.eqv p.1 k then (p.1, v) else p else kvs ++ [(k, v)]
def ddrop (kvs : List (D × D)) (k : D) : List (D × D) := kvs.filter fun p => !PyData.eqv p.1 k
def dmerge (kvs : List (D × D)) : List (D × D) → List (D × D)
  | [] => kvs
  | (k, v) :: r => dmerge (dput kvs k v) r
/-- xs[i] by Python's index -/
def ixOf {α : Type} (xs : List α) (i : Int) : Option α :=
  if 0 ≤ i then xs[i.toNat]? else if -(xs.length : Int) ≤ i then xs[(i + xs.length).toNat]? else none
def cutIx (n d : Nat) : Option Int → Nat
  | none => d
  | some i => if i < 0 then (i + n).toNat else min i.toNat n
def cut {α : Type} (xs : List α) (lo hi : Option Int) : List α :=
  (xs.drop (cutIx xs.length 0 lo)).take (cutIx xs.length xs.length hi - cutIx xs.length 0 lo)
def isKind : Ty → D → Bool
  | .int, .int _ => true
  | .int, .bool _ => true
  | .bool, .bool _ => true
  | .str, .str _ => true
  | .tup, .tuple _ => true
  | .lst, .list _ => true
  | _, _ => false
def pairsOf : List D → Option (List (D × D))
  | [] => some []
  | .tuple [a, b] :: r => if keyable a then (pairsOf r).map ((a, b) :: ·) else none
  | _ => none
def noDict : D → Bool
  | .dict _ => false
  | _ => true
/-- keys and values, one after another -/
def pairUp : List D → Option (List (D × D))
  | [] => some []
  | k :: v :: r => if keyable k && noDict v then (pairUp r).map ((k, v) :: ·) else none
  | _ => none
def guardL (xs : List D) : Option D := if xs.length ≤ SL then some (.list xs) else none
def guardT (xs : List D) : Option D := if xs.length ≤ SL then some (.tuple xs) else none
/-- each once, the first of equal ones -/
def dedup (xs : List D) : List D := xs.foldl (fun acc x => if acc.any fun y => PyData.eqv y x then acc else acc ++ [x]) []

def isMutD : D → Bool
  | .list _ => true
  | .dict _ => true
  | _ => false
def isStrD : D → Bool
  | .str _ => true
  | _ => false
def isNoneD : D → Bool
  | .none => true
  | _ => false
def isBoolD (b : Bool) : D → Bool
  | .bool c => c == b
  | _ => false

def f1 : P1 → D → Option D
  | .neg, .int i => some (.int (-i))
  | .abs, .int i => some (.int (if i < 0 then -i else i))
  | .len, .list xs => some (.int xs.length)
  | .len, .tuple xs => some (.int xs.length)
  | .len, .dict kvs => some (.int kvs.length)
  | .len, .str s => if s.length ≤ SL then some (.int s.length) else none
  | .sorted, d => (seqOf d).bind fun xs => if sortable xs then some (.list (sortD xs)) else none
  | .mn, .list xs => least xs
  | .mn, .tuple xs => least xs
  | .mx, .list xs => greatest xs
  | .mx, .tuple xs => greatest xs
  | .mxv, .dict kvs => greatest (kvs.map (·.2))
  | .sum, .list xs => (intsOf xs).map fun is => .int is.sum
  | .all, .list xs => (boolsOf xs).map fun bs => .bool (bs.all id)
  | .any, .list xs => (boolsOf xs).map fun bs => .bool (bs.any id)
  | .tup, .list xs => some (.tuple xs)
  | .tup, .tuple xs => some (.tuple xs)
  | .lst, .list xs => some (.list xs)
  | .lst, .tuple xs => some (.list xs)
  | .int, .int i => some (.int i)
  | .int, .bool b => some (.int (if b then 1 else 0))
  | .str, .str s => some (.str s)
  | .isN, d => some (.bool (isNoneD d))
  | .notN, d => some (.bool (!isNoneD d))
  | .isB b, d => some (.bool (isBoolD b d))
  | .notB b, d => some (.bool (!isBoolD b d))
  | .isI t, d => if noDict d then some (.bool (isKind t d)) else none
  | .rev, .list xs => some (.list xs.reverse)
  | .dct, .list xs => (pairsOf xs).map fun kvs => .dict (dmerge [] kvs)
  | .vals, .dict kvs => some (.list (kvs.map (·.2)))
  | .sset, d => (seqOf d).bind fun xs => if xs.all keyable && sortable (dedup xs) then some (.list (sortD (dedup xs))) else none
  | .lset, d => (seqOf d).bind fun xs => if xs.all keyable then some (.int (dedup xs).length) else none
  | .rev, .tuple xs => some (.tuple xs.reverse)
  | _, _ => none
def cmpOk (a b : D) : Bool := alike a b && notNone a && dok a
def f2 : P2 → D → D → Option D
  | .add, .int a, .int b => some (.int (a + b))
  | .add, .list a, .list b => guardL (a ++ b)
  | .add, .tuple a, .tuple b => guardT (a ++ b)
  | .add, .str a, .str b => if a.length + b.length ≤ SL then some (.str (a ++ b)) else none
  | .sub, .int a, .int b => some (.int (a - b))
  | .mul, .int a, .int b => if small a || small b then some (.int (a * b)) else none
  | .fdiv, .int a, .int b => if decide (b ≠ 0) && decide (b.natAbs < 1073741824) then some (.int (a.fdiv b)) else none
  | .mod, .int a, .int b => if b ≠ 0 then some (.int (a.fmod b)) else none
  | .pow, .int a, .int b => if decide (0 ≤ b) && decide (b ≤ 1000000) && decide (a.natAbs < 2 ^ 64) then some (.int (a ^ b.toNat)) else none
  | .lt, .int a, .int b => some (.bool (decide (a < b)))
  | .le, .int a, .int b => some (.bool (decide (a ≤ b)))
  | .gt, .int a, .int b => some (.bool (decide (b < a)))
  | .ge, .int a, .int b => some (.bool (decide (b ≤ a)))
  | .lt, a, b => if cmpOk a b then some (.bool (dataLt a b)) else none
  | .le, a, b => if cmpOk a b then some (.bool (!dataLt b a)) else none
  | .gt, a, b => if cmpOk a b then some (.bool (dataLt b a)) else none
  | .ge, a, b => if cmpOk a b then some (.bool (!dataLt a b)) else none
  | .eq, a, b => if a.plain && b.plain && dok a then some (.bool (PyData.eqv a b)) else none
  | .ne, a, b => if a.plain && b.plain && dok a then some (.bool (!PyData.eqv a b)) else none
  | .isin, a, .dict kvs => if keyable a then some (.bool (dhas kvs a)) else none
  | .notin, a, .dict kvs => if keyable a then some (.bool (!dhas kvs a)) else none
  | .isin, a, .list xs => if a.plain && PyData.plainAll xs && dok a then some (.bool (xs.any fun x => PyData.eqv x a)) else none
  | .notin, a, .list xs => if a.plain && PyData.plainAll xs && dok a then some (.bool (!xs.any fun x => PyData.eqv x a)) else none
  | .isin, a, .tuple xs => if a.plain && PyData.plainAll xs && dok a then some (.bool (xs.any fun x => PyData.eqv x a)) else none
  | .notin, a, .tuple xs => if a.plain && PyData.plainAll xs && dok a then some (.bool (!xs.any fun x => PyData.eqv x a)) else none
  | .ix, .list xs, .int i => ixOf xs i
  | .ix, .tuple xs, .int i => ixOf xs i
  | .ix, .dict kvs, k => if keyable k then dlook kvs k else none
  | .mn2, .int a, .int b => some (.int (if b < a then b else a))
  | .mx2, .int a, .int b => some (.int (if b > a then b else a))
  | .get, .dict kvs, k => if keyable k then some ((dlook kvs k).getD .none) else none
  | .slLo, .list xs, .int i => some (.list (cut xs (some i) none))
  | .slLo, .tuple xs, .int i => some (.tuple (cut xs (some i) none))
  | .slHi, .list xs, .int i => some (.list (cut xs none (some i)))
  | .slHi, .tuple xs, .int i => some (.tuple (cut xs none (some i)))
  | _, _, _ => none
/-- op= on ints -/
def augD : P2 → D → D → Option D
  | .add, .int a, .int b => some (.int (a + b))
  | .sub, .int a, .int b => some (.int (a - b))
  | _, _, _ => none
def f3 : P3 → D → D → D → Option D
  | .get, .dict kvs, k, d => if keyable k && !isMutD d then some ((dlook kvs k).getD d) else none
  | _, _, _, _ => none
/-- the place of index i among n -/
def ixPlace (n : Nat) (i : Int) : Option Nat := if 0 ≤ i then (if i < n then some i.toNat else none) else if -(n : Int) ≤ i then some (i + n).toNat else none
/-- what is changed: the new content, and what comes back -/
def fM : Mu → D → List D → Option (D × D)
  | .append, .list xs, [d] => if noDict d && decide (xs.length < SL) then some (.list (xs ++ [d]), .none) else none
  | .pop, .list xs, [] => xs.getLast?.map fun d => (.list xs.dropLast, d)
  | .popK, .dict kvs, [k] => if keyable k then (dlook kvs k).map fun v => (.dict (ddrop kvs k), v) else none
  | .update, .dict kvs, [.dict more] => if !kvs.isEmpty && decide (kvs.length + more.length ≤ SL) then some (.dict (dmerge kvs more), .none) else none
  | .extend, .list xs, [.list ys] => if decide (xs.length + ys.length ≤ SL) then some (.list (xs ++ ys), .none) else none
  | .set, .list xs, [d, .int i] => if noDict d then (ixPlace xs.length i).map fun j => (.list (xs.set j d), .none) else none
  | .set, .dict kvs, [d, k] => if noDict d && keyable k && decide (kvs.length < SL) then some (.dict (dput kvs k d), .none) else none
  | .addI, .dict kvs, [k, .int j] => if keyable k && decide (kvs.length < SL) then (match dlook kvs k with | some (.int i) => some (.dict (dput kvs k (.int (i + j))), .none) | _ => none) else none
  | _, _, _ => none
/-- what must be known of the slot ahead of the arguments -/
def preM : Mu → Option Sl → Option Unit
  | .append, some (.ow (.list _)) => some ()
  | .pop, some (.ow (.list _)) => some ()
  | .extend, some (.ow (.list _)) => some ()
  | .popK, some (.ow (.dict _)) => some ()
  | .update, some (.ow (.dict _)) => some ()
  | .set, some (.ow _) => some ()
  | .addI, some (.ow _) => some ()
  | _, _ => none
/-- a list, a tuple of items, none of them a dict -/
def mkL (xs : List D) : Option D := if xs.all noDict then guardL xs else none
def mkT (xs : List D) : Option D := if xs.all noDict then guardT xs else none

/-! ### the core's terms -/
/-- a target: one slot, or several -/
inductive Ct where
  | nm (i : Nat) | tp (is : List Nat)
mutual
inductive Ce where
  | cst (d : D) | glb (k : Nat) | rd (i : Nat)
  | p1 (p : P1) (a : Co) | p2 (p : P2) (a b : Co) | p3 (p : P3) (a b c : Co)
  | chain (p q : P2) (a b c : Co)
  | and (a b : Ce) | or (a b : Ce) | not (a : Ce) | ite (c a b : Ce)
  | tup (es : Ces) | lst (es : Ces) | dct (es : Ces)
  | call (f : Nat) (as : Cas)
  | mut (m : Mu) (i : Nat) (es : Ces)
  | lc (tg : Ct) (it : Ci) (cs : Ces) (e : Ce) (own : List Nat)
  | lcS (tg : Ct) (i : Nat) (cs : Ces) (e : Ce) (own : List Nat)
  | lc2 (tg : Ct) (it : Ci) (cs : Ces) (tg1 : Ct) (it1 : Ci) (cs1 : Ces) (e : Ce) (own own1 : List Nat)
  | dc (tg : Ct) (it : Ci) (cs : Ces) (k v : Ce) (own : List Nat)
inductive Co where
  | ex (e : Ce) | pk (i : Nat)
inductive Ces where
  | nil | cons (e : Ce) (r : Ces)
inductive Cas where
  | nil | ex (e : Ce) (r : Cas) | bw (i : Nat) (r : Cas)
inductive Ci where
  | ex (e : Ce) | rng (es : Ces) | zip (es : Ces) | enum (e : Ce)
end
mutual
inductive Cs where
  | asg (i : Nat) (own : Bool) (e : Ce)
  | unp (is : List Nat) (e : Ce)
  | par (is : List (Nat × Bool)) (es : Ces)
  | aug (i : Nat) (p : P2) (e : Ce)
  | expr (e : Ce)
  | mutS (m : Mu) (i : Nat) (es : Ces)
  | ret (e : Ce)
  | ifs (c : Ce) (a b : Cb)
  | whl (c : Ce) (b : Cb)
  | for (tg : Ct) (it : Ci) (b : Cb)
  | forS (tg : Ct) (i : Nat) (b : Cb)
  | pass | dead
inductive Cb where
  | nil | cons (s : Cs) (r : Cb)
end
structure Fn where
  name : String
  np : Nat
  ns : Nat
  kp : List Nat
  body : Cb
/-- only the slots kp get what is the caller's own -/
def owOk (kp : List Nat) : Nat → List Sl → Bool
  | _, [] => true
  | i, .ow _ :: r => kp.contains i && owOk kp (i + 1) r
  | i, _ :: r => owOk kp (i + 1) r

/-! ### the evaluator -/
/-- an operand, once it is reckoned -/
inductive Wv where
  | val (d : D) | at (i : Nat)
def Wv.get (env : En) : Wv → Option D
  | .val d => some d
  | .at i => peek env i
/-- what must be known of the first operand ahead of the others -/
def pre2 : P2 → Option D → Option Unit
  | .get, some (.dict _) => some ()
  | .get, _ => none
  | _, _ => some ()
def pre3 : P3 → Option D → Option Unit
  | .get, some (.dict _) => some ()
  | .get, _ => none
  | _, _ => some ()
/-- an argument, once it is reckoned -/
inductive Av where
  | val (d : D) | own (i : Nat)
def Av.get (env : En) : Av → Option Sl
  | .val d => some (.fz d)
  | .own i => match env[i]? with
    | some (.ow d) => if isMutD d then some (.ow d) else none
    | _ => none
def takeAll (env : En) : List Av → Option (List Sl)
  | [] => some []
  | a :: r => (a.get env).bind fun s => (takeAll env r).map (s :: ·)
def ownsOf : List Av → List Nat
  | [] => []
  | .own i :: r => i :: ownsOf r
  | .val _ :: r => ownsOf r
def putBack : List Av → List Sl → En → Option En
  | [], _, env => some env
  | .val _ :: r, _ :: ps, env => putBack r ps env
  | .own i :: r, .ow d :: ps, env => putBack r ps (env.set i (.ow d))
  | .own i :: r, .fz d :: ps, env => putBack r ps (env.set i (.fz d))
  | _, _, _ => none
def nodupN : List Nat → Bool
  | [] => true
  | x :: r => !r.contains x && nodupN r
def store (env : En) : List Nat → List D → Option En
  | [], [] => some env
  | i :: is, d :: ds => store (env.set i (.fz d)) is ds
  | _, _ => none
def storeS (env : En) : List (Nat × Bool) → List Sl → Option En
  | [], [] => some env
  | (i, _) :: is, s :: ss => storeS (env.set i s) is ss
  | _, _ => none
def bindT (env : En) (tg : Ct) (d : D) : Option En :=
  match tg with
  | .nm i => some (env.set i (.fz d))
  | .tp is => match d with
    | .tuple ds => store env is ds
    | _ => none
def wipeE (env : En) : List Nat → En
  | [] => env
  | i :: r => (wipeE env r).set i .emp
/-- none of these slots owns -/
def ownFree (env : En) (own : List Nat) : Bool := own.all fun i => match env[i]? with
  | some (.ow _) => false
  | _ => true
/-- the slots as they were in env0 -/
def unwipe (env env0 : En) : List Nat → En
  | [] => env
  | i :: r => (unwipe env env0 r).set i (env0.getD i .emp)
def itemsOf : D → Option (List D)
  | .list xs => some xs
  | .tuple xs => some xs
  | .dict kvs => some (kvs.map (·.1))
  | .str s => some (s.cps.toList.map fun c => .str ⟨#[c]⟩)
  | _ => none
def rangeUp (lo : Int) (n : Nat) : List D := (List.range n).map fun (i : Nat) => .int (lo + i)
def fits62 (i : Int) : Bool := decide (-(2 ^ 62) ≤ i) && decide (i < 2 ^ 62)
def rangeOf : List D → Option (List D)
  | [.int b] => if fits62 b then some (rangeUp 0 b.toNat) else none
  | [.int a, .int b] => if fits62 a && fits62 b then some (rangeUp a (b - a).toNat) else none
  | [.int a, .int b, .int (-1)] => if fits62 a && fits62 b then some ((List.range (a - b).toNat).map fun (i : Nat) => .int (a - i)) else none
  | _ => none
def zip3 : List D → List D → List D → List D
  | a :: as, b :: bs, c :: cs => .tuple [a, b, c] :: zip3 as bs cs
  | _, _, _ => []
/-- what zip and enumerate walk: a list, a tuple -/
def srcOf : D → Option (List D)
  | .list xs => some xs
  | .tuple xs => some xs
  | _ => none
def zipOf : List D → Option (List D)
  | [a, b] => (srcOf a).bind fun xs => (srcOf b).map fun ys => (xs.zip ys).map fun p => .tuple [p.1, p.2]
  | [a, b, c] => (srcOf a).bind fun xs => (srcOf b).bind fun ys => (srcOf c).map fun zs => zip3 xs ys zs
  | _ => none
def enumOf (xs : List D) : List D := xs.mapIdx fun i x => .tuple [.int i, x]
/-- the turns of a comprehension -/
def lcLoop (step : D → En → Option (Option D × En)) : List D → En → Option (List D × En)
  | [], env => some ([], env)
  | x :: xs, env => (step x env).bind fun p => (lcLoop step xs p.2).map fun q => ((match p.1 with | some d => d :: q.1 | none => q.1), q.2)
/-- .. over a slot's own list, as it stands at each turn -/
def lcLoopS (step : D → En → Option (Option D × En)) (i n : Nat) : Nat → Nat → En → Option (List D × En)
  | 0, _, _ => none
  | m + 1, k, env => match (peek env i).bind itemsOf with
    | none => none
    | some xs => if xs.length ≠ n then none else match xs[k]? with
      | none => some ([], env)
      | some x => (step x env).bind fun p => (lcLoopS step i n m (k + 1) p.2).map fun q => ((match p.1 with | some d => d :: q.1 | none => q.1), q.2)
def lcLoop2 (step : D → En → Option (List D × En)) : List D → En → Option (List D × En)
  | [], env => some ([], env)
  | x :: xs, env => (step x env).bind fun p => (lcLoop2 step xs p.2).map fun q => (p.1 ++ q.1, q.2)
def dcLoop (step : D → En → Option (Option (D × D) × En)) : List D → En → List (D × D) → Option (List (D × D) × En)
  | [], env, acc => some (acc, env)
  | x :: xs, env, acc => (step x env).bind fun p => dcLoop step xs p.2 (match p.1 with | some (k, v) => dput acc k v | none => acc)

abbrev Calls := Nat → List Sl → Option (Sl × List Sl)
mutual
def evalE (T : List D) (C : Calls) : Ce → En → Option (Sl × En)
  | .cst d, env => some (.fz d, env)
  | .glb k, env => T[k]?.map fun d => (.fz d, env)
  | .rd i, env => match env[i]? with
    | some (.fz d) => some (.fz d, env)
    | some (.ow d) => some (.fz d, env.set i (.fz d))
    | _ => none
  | .p1 p a, env => (evalO T C a env).bind fun x => (x.1.get x.2).bind fun d => (f1 p d).map fun r => (.mk p.fresh r, x.2)
  | .p2 p a b, env => (evalO T C a env).bind fun x => (pre2 p (x.1.get x.2)).bind fun _ => (evalO T C b x.2).bind fun y => (x.1.get y.2).bind fun d => (y.1.get y.2).bind fun e => (f2 p d e).map fun r => (.mk p.fresh r, y.2)
  | .p3 p a b c, env => (evalO T C a env).bind fun x => (pre3 p (x.1.get x.2)).bind fun _ => (evalO T C b x.2).bind fun y => (evalO T C c y.2).bind fun z => (x.1.get z.2).bind fun d => (y.1.get z.2).bind fun e => (z.1.get z.2).bind fun g => (f3 p d e g).map fun r => (.mk p.fresh r, z.2)
  | .chain p q a b c, env => (evalO T C a env).bind fun x => (evalO T C b x.2).bind fun y => (x.1.get y.2).bind fun d => (y.1.get y.2).bind fun e => match f2 p d e with
    | some (.bool false) => some (.fz (.bool false), y.2)
    | some (.bool true) => (evalO T C c y.2).bind fun z => (y.1.get z.2).bind fun e => (z.1.get z.2).bind fun g => (f2 q e g).map fun r => (.fz r, z.2)
    | _ => none
  | .and a b, env => (evalE T C a env).bind fun x => match x.1.dat with
    | .bool true => evalE T C b x.2
    | .bool false => some (.fz (.bool false), x.2)
    | _ => none
  | .or a b, env => (evalE T C a env).bind fun x => match x.1.dat with
    | .bool true => some (.fz (.bool true), x.2)
    | .bool false => evalE T C b x.2
    | _ => none
  | .not a, env => (evalE T C a env).bind fun x => match x.1.dat with
    | .bool b => some (.fz (.bool (!b)), x.2)
    | _ => none
  | .ite c a b, env => (evalE T C c env).bind fun x => match x.1.dat with
    | .bool true => evalE T C a x.2
    | .bool false => evalE T C b x.2
    | _ => none
  | .tup es, env => (evalEs T C es env).bind fun x => (mkT x.1).map fun d => (.fz d, x.2)
  | .lst es, env => (evalEs T C es env).bind fun x => (mkL x.1).map fun d => (.ow d, x.2)
  | .dct es, env => (evalEs T C es env).bind fun x => (pairUp x.1).map fun kvs => (.ow (.dict (dmerge [] kvs)), x.2)
  | .call f as, env => (evalAs T C as env).bind fun x => if nodupN (ownsOf x.1) then (takeAll x.2 x.1).bind fun ss => (C f ss).bind fun r => (putBack x.1 r.2 x.2).map fun env1 => (r.1, env1) else none
  | .mut m i es, env => (preM m env[i]?).bind fun _ => (evalEs T C es env).bind fun x => match x.2[i]? with
    | some (.ow d) => (fM m d x.1).map fun r => (.fz r.2, x.2.set i (.ow r.1))
    | _ => none
  | .lc tg it cs e own, env => (evalI T C it env).bind fun x => if ownFree x.2 own then
      (lcLoop (fun d env => (bindT env tg d).bind fun env => (evalCs T C cs env).bind fun c => if c.1 then (evalE T C e c.2).map fun r => (some r.1.dat, wipeE r.2 own) else some (none, wipeE c.2 own)) x.1 (wipeE x.2 own)).bind fun r =>
        (mkL r.1).map fun d => (.ow d, unwipe r.2 x.2 own)
      else none
  | .lcS tg i cs e own, env => if ownFree env own && !own.contains i then match (peek env i).bind itemsOf with
      | none => none
      | some xs => (lcLoopS (fun d env => (bindT env tg d).bind fun env => (evalCs T C cs env).bind fun c => if c.1 then (evalE T C e c.2).map fun r => (some r.1.dat, wipeE r.2 own) else some (none, wipeE c.2 own)) i xs.length (xs.length + 1) 0 (wipeE env own)).bind fun r =>
        (mkL r.1).map fun d => (.ow d, unwipe r.2 env own)
      else none
  | .lc2 tg it cs tg1 it1 cs1 e own own1, env => (evalI T C it env).bind fun x => if ownFree x.2 own then
      (lcLoop2 (fun d env => (bindT env tg d).bind fun env => (evalCs T C cs env).bind fun c => if c.1 then
          (evalI T C it1 c.2).bind fun y => (lcLoop (fun d env => (bindT env tg1 d).bind fun env => (evalCs T C cs1 env).bind fun c => if c.1 then (evalE T C e c.2).map fun r => (some r.1.dat, wipeE r.2 own1) else some (none, wipeE c.2 own1)) y.1 (wipeE y.2 own1)).map fun r => (r.1, wipeE r.2 own)
        else some ([], wipeE c.2 own)) x.1 (wipeE x.2 own)).bind fun r =>
        (mkL r.1).map fun d => (.ow d, unwipe r.2 x.2 own)
      else none
  | .dc tg it cs k v own, env => (evalI T C it env).bind fun x => if ownFree x.2 own then
      (dcLoop (fun d env => (bindT env tg d).bind fun env => (evalCs T C cs env).bind fun c => if c.1 then (evalE T C k c.2).bind fun r => if keyable r.1.dat then (evalE T C v r.2).bind fun q => if noDict q.1.dat then some (some (r.1.dat, q.1.dat), wipeE q.2 own) else none else none else some (none, wipeE c.2 own)) x.1 (wipeE x.2 own) []).bind fun r =>
        if r.1.length < SL then some (.ow (.dict r.1), unwipe r.2 x.2 own) else none
      else none
def evalO (T : List D) (C : Calls) : Co → En → Option (Wv × En)
  | .ex e, env => (evalE T C e env).map fun x => (.val x.1.dat, x.2)
  | .pk i, env => (peek env i).map fun _ => (.at i, env)
def evalEs (T : List D) (C : Calls) : Ces → En → Option (List D × En)
  | .nil, env => some ([], env)
  | .cons e r, env => (evalE T C e env).bind fun x => (evalEs T C r x.2).map fun y => (x.1.dat :: y.1, y.2)
def evalAs (T : List D) (C : Calls) : Cas → En → Option (List Av × En)
  | .nil, env => some ([], env)
  | .ex e r, env => (evalE T C e env).bind fun x => (evalAs T C r x.2).map fun y => (.val x.1.dat :: y.1, y.2)
  | .bw i r, env => (peek env i).bind fun _ => (evalAs T C r env).map fun y => (.own i :: y.1, y.2)
/-- tests of a comprehension -/
def evalCs (T : List D) (C : Calls) : Ces → En → Option (Bool × En)
  | .nil, env => some (true, env)
  | .cons e r, env => (evalE T C e env).bind fun x => match x.1.dat with
    | .bool true => evalCs T C r x.2
    | .bool false => some (false, x.2)
    | _ => none
/-- what a loop walks -/
def evalI (T : List D) (C : Calls) : Ci → En → Option (List D × En)
  | .ex e, env => (evalE T C e env).bind fun x => (if isStrD x.1.dat then none else itemsOf x.1.dat).map fun xs => (xs, x.2)
  | .rng es, env => (evalEs T C es env).bind fun x => (rangeOf x.1).map fun xs => (xs, x.2)
  | .zip es, env => (evalEs T C es env).bind fun x => (zipOf x.1).map fun xs => (xs, x.2)
  | .enum e, env => (evalE T C e env).bind fun x => (srcOf x.1.dat).map fun xs => (enumOf xs, x.2)
end

inductive Oc where
  | nx | rt (s : Sl)
def forLoop (body : En → Option (Oc × En)) (tg : Ct) : List D → En → Option (Oc × En)
  | [], env => some (.nx, env)
  | x :: xs, env => (bindT env tg x).bind fun env => (body env).bind fun p => match p.1 with
    | .nx => forLoop body tg xs p.2
    | .rt s => some (.rt s, p.2)
def forLoopS (body : En → Option (Oc × En)) (tg : Ct) (i n : Nat) : Nat → Nat → En → Option (Oc × En)
  | 0, _, _ => none
  | m + 1, k, env => match (peek env i).bind itemsOf with
    | none => none
    | some xs => if xs.length ≠ n then none else match xs[k]? with
      | none => some (.nx, env)
      | some x => (bindT env tg x).bind fun env => (body env).bind fun p => match p.1 with
        | .nx => forLoopS body tg i n m (k + 1) p.2
        | .rt s => some (.rt s, p.2)
def whlLoop (test : En → Option (Bool × En)) (body : En → Option (Oc × En)) : Nat → En → Option (Oc × En)
  | 0, _ => none
  | m + 1, env => (test env).bind fun c => if c.1 then (body c.2).bind fun p => match p.1 with
      | .nx => whlLoop test body m p.2
      | .rt s => some (.rt s, p.2)
    else some (.nx, c.2)
def testOf (x : Option (Sl × En)) : Option (Bool × En) := x.bind fun p => match p.1.dat with
  | .bool b => some (b, p.2)
  | _ => none
/-- the values of a parallel assignment, each as it comes, frozen where its slot owns nothing -/
def evalSs (T : List D) (C : Calls) : List (Nat × Bool) → Ces → En → Option (List Sl × En)
  | _, .nil, env => some ([], env)
  | [], .cons _ _, _ => none
  | (_, own) :: is, .cons e r, env => (evalE T C e env).bind fun x => (evalSs T C is r x.2).map fun y => ((if own then x.1 else x.1.thaw) :: y.1, y.2)
mutual
def execS (T : List D) (C : Calls) : Cs → En → Option (Oc × En)
  | .asg i own e, env => (evalE T C e env).map fun x => (.nx, x.2.set i (if own then x.1 else x.1.thaw))
  | .unp is e, env => (evalE T C e env).bind fun x => (bindT x.2 (.tp is) x.1.dat).map fun env => (.nx, env)
  | .par is es, env => (evalSs T C is es env).bind fun x => (storeS x.2 is x.1).map fun env => (.nx, env)
  | .aug i p e, env => (peek env i).bind fun _ => (evalE T C e env).bind fun x => (peek x.2 i).bind fun d => (augD p d x.1.dat).map fun r => (.nx, x.2.set i (.fz r))
  | .expr e, env => (evalE T C e env).map fun x => (.nx, x.2)
  | .mutS m i es, env => (preM m env[i]?).bind fun _ => (evalEs T C es env).bind fun x => match x.2[i]? with
    | some (.ow d) => (fM m d x.1).map fun r => (.nx, x.2.set i (.ow r.1))
    | _ => none
  | .ret e, env => (evalE T C e env).map fun x => (.rt x.1, x.2)
  | .ifs c a b, env => (testOf (evalE T C c env)).bind fun x => if x.1 then execB T C a x.2 else execB T C b x.2
  | .whl c b, env => whlLoop (fun env => testOf (evalE T C c env)) (fun env => execB T C b env) WF env
  | .for tg it b, env => (evalI T C it env).bind fun x => forLoop (fun env => execB T C b env) tg x.1 x.2
  | .forS tg i b, env => match (peek env i).bind itemsOf with
    | none => none
    | some xs => forLoopS (fun env => execB T C b env) tg i xs.length (xs.length + 1) 0 env
  | .pass, env => some (.nx, env)
  | .dead, _ => none
def execB (T : List D) (C : Calls) : Cb → En → Option (Oc × En)
  | .nil, env => some (.nx, env)
  | .cons s r, env => (execS T C s env).bind fun p => match p.1 with
    | .nx => execB T C r p.2
    | .rt s => some (.rt s, p.2)
end
def callFn (T : List D) (C : Calls) (fd : Fn) (ss : List Sl) : Option (Sl × List Sl) :=
  if ss.length = fd.np ∧ owOk fd.kp 0 ss = true then (execB T C fd.body (ss ++ List.replicate (fd.ns - fd.np) .emp)).map fun p => (match p.1 with | .nx => .fz .none | .rt s => s, p.2.take fd.np) else none
def run (T : List D) (P : List Fn) : Nat → Calls
  | 0 => fun _ _ => none
  | n + 1 => fun f ss => P[f]?.bind fun fd => callFn T (run T P n) fd ss
end Ky
end

section
set_option autoImplicit false
set_option linter.all false
set_option maxRecDepth 100000
set_option Elab.async false
/-! How data lie in the hand layer's heap. F: what is frozen; a slot's own object lies outside of it. -/
namespace Ky
open PySem PySem.Spec L2
open PyProof.Rows hiding St

/-! keys -/
mutual
def nk : D → NestedKey
  | .none => .none
  | .bool b => .num (if b = true then 1 else 0)
  | .int i => .num i
  | .str s => .text s
  | .tuple xs => .tup (nks xs)
  | .list _ => .none
  | .dict _ => .none
def nks : List D → List NestedKey
  | [] => []
  | x :: r => nk x :: nks r
end
mutual
theorem nk_eqv : ∀ a b : D, keyIn a = true → keyIn b = true → NestedKey.beq (nk a) (nk b) = PyData.eqv a b
  | .none, b, _, hb => by cases b <;> simp_all [nk, NestedKey.beq, PyData.eqv, keyIn]
  | .bool x, b, _, hb => by
    cases b with
    | bool y => cases x <;> cases y <;> simp [nk, NestedKey.beq, PyData.eqv]
    | int j =>
      simp only [nk, NestedKey.beq, PyData.eqv]
      exact (W.beq_decide _ _).symm
    | _ => simp_all [nk, NestedKey.beq, PyData.eqv, keyIn]
  | .int x, b, _, hb => by
    cases b with
    | bool y => simp only [nk, NestedKey.beq, PyData.eqv]; exact (W.beq_decide _ _).symm
    | int j => simp only [nk, NestedKey.beq, PyData.eqv]; exact (W.beq_decide _ _).symm
    | _ => simp_all [nk, NestedKey.beq, PyData.eqv, keyIn]
  | .str x, b, _, hb => by
    cases b with
    | str y => simp only [nk, NestedKey.beq, PyData.eqv]; exact (W.beq_decide _ _).symm
    | _ => simp_all [nk, NestedKey.beq, PyData.eqv, keyIn]
  | .tuple xs, b, ha, hb => by
    cases b with
    | tuple ys =>
      simp only [nk, NestedKey.beq, PyData.eqv]
      exact nks_eqv xs ys (by simpa [keyIn] using ha) (by simpa [keyIn] using hb)
    | _ => simp_all [nk, NestedKey.beq, PyData.eqv, keyIn]
  | .list _, _, ha, _ => by simp [keyIn] at ha
  | .dict _, _, ha, _ => by simp [keyIn] at ha
theorem nks_eqv : ∀ xs ys : List D, keyAll xs = true → keyAll ys = true → NestedKey.beqAll (nks xs) (nks ys) = PyData.eqvAll xs ys
  | [], [], _, _ => by simp [nks, NestedKey.beqAll, PyData.eqvAll]
  | [], _ :: _, _, _ => by simp [nks, NestedKey.beqAll, PyData.eqvAll]
  | _ :: _, [], _, _ => by simp [nks, NestedKey.beqAll, PyData.eqvAll]
  | x :: xs, y :: ys, ha, hb => by
    simp only [keyAll, Bool.and_eq_true] at ha hb
    simp only [nks, NestedKey.beqAll, PyData.eqvAll]
    rw [nk_eqv x y ha.1 hb.1, nks_eqv xs ys ha.2 hb.2]
end
mutual
theorem nk_depth : ∀ d : D, (nk d).depth ≤ d.depth
  | .none => by simp [nk, NestedKey.depth]
  | .bool _ => by simp [nk, NestedKey.depth]
  | .int _ => by simp [nk, NestedKey.depth]
  | .str _ => by simp [nk, NestedKey.depth]
  | .tuple xs => by
    simp only [nk, NestedKey.depth, PyData.depth]
    have := nks_depth xs
    omega
  | .list _ => by simp [nk, NestedKey.depth]
  | .dict _ => by simp [nk, NestedKey.depth]
theorem nks_depth : ∀ xs : List D, NestedKey.depthAll (nks xs) ≤ PyData.depthAll xs
  | [] => by simp [nks, NestedKey.depthAll, PyData.depthAll]
  | x :: r => by
    simp only [nks, NestedKey.depthAll, PyData.depthAll]
    have h1 := nk_depth x
    have h2 := nks_depth r
    omega
end

/-- the object at a, as it is -/
def RawO (a : Addr) (o : Obj) : HO := .ext fun h => h.get? a = some o ∧ (a == sysModules) = false
theorem rawO_ok {P : Program} {w : World} {H : Hp} {h : Heap} {a : Addr} {o : Obj} (e : h.get? a = some o) (n : (a == sysModules) = false) : ObjOk P w H h a (RawO a o) :=
  ⟨⟨e, n⟩, ⟨o, e⟩, fun h1 h2 p k => ⟨k _ p.1, p.2⟩⟩

end Ky

namespace L2
open PySem PySem.Spec PyProof.Rows Ky
section
variable {K : PySem.W.Frag} {F F' : Hp}
theorem Same.seqT {H H' : Hp} {a : Addr} {xs : List V} (e : Same H H') (h : SqT K H a xs) : SqT K H' a xs := by
  rcases h with (h | ⟨o, h⟩) | h
  · exact .inl (.inl (e _ _ h))
  · exact .inl (.inr ⟨o, e _ _ h⟩)
  · exact .inr h
mutual
theorem dp_mono (s : Same F F') : ∀ (d : D) (v : V), Dp K F v d → Dp K F' v d
  | .none, _, h => by cases h; exact .non
  | .bool _, _, h => by cases h; exact .bl _
  | .int _, _, h => by cases h; exact .int _
  | .str _, _, h => by cases h; exact .str _
  | .list ds, _, h => by
    cases h with
    | lst hs ha => exact .lst (s.seq hs) (dps_mono s ds _ ha)
  | .tuple ds, _, h => by
    cases h with
    | tup hs ha => exact .tup (s.seqT hs) (dps_mono s ds _ ha)
  | .dict _, _, h => by cases h
theorem dps_mono (s : Same F F') : ∀ (ds : List D) (vs : List V), DpAll K F vs ds → DpAll K F' vs ds
  | [], _, h => by cases h; exact .nil
  | d :: ds, _, h => by
    cases h with
    | cons h1 h2 => exact .cons (dp_mono s d _ h1) (dps_mono s ds _ h2)
end
theorem Dp.mono (s : Same F F') {d : D} {v : V} (h : Dp K F v d) : Dp K F' v d := dp_mono s d v h
theorem DpAll.mono (s : Same F F') {ds : List D} {vs : List V} (h : DpAll K F vs ds) : DpAll K F' vs ds := dps_mono s ds vs h
theorem DpAll.length : ∀ {ds : List D} {vs : List V}, DpAll K F vs ds → vs.length = ds.length
  | _, _, .nil => rfl
  | _, _, .cons _ t => by simp [DpAll.length t]
theorem DpAll.append : ∀ {ds es : List D} {vs us : List V}, DpAll K F vs ds → DpAll K F us es → DpAll K F (vs ++ us) (ds ++ es)
  | _, _, _, _, .nil, h => h
  | _, _, _, _, .cons a t, h => .cons a (DpAll.append t h)
theorem DpAll.get : ∀ {ds : List D} {vs : List V} {i : Nat} {d : D}, DpAll K F vs ds → ds[i]? = some d → ∃ v, vs[i]? = some v ∧ Dp K F v d
  | _, _, _, _, .nil, e => by simp at e
  | _, _, 0, _, .cons a t, e => by simp at e; subst e; exact ⟨_, rfl, a⟩
  | _, _, i + 1, _, .cons a t, e => by
    obtain ⟨v, h1, h2⟩ := DpAll.get (i := i) t (by simpa using e)
    exact ⟨v, by simpa using h1, h2⟩
theorem DpAll.getV : ∀ {ds : List D} {vs : List V} {i : Nat} {v : V}, DpAll K F vs ds → vs[i]? = some v → ∃ d, ds[i]? = some d ∧ Dp K F v d
  | _, _, _, _, .nil, e => by simp at e
  | _, _, 0, _, .cons a t, e => by simp at e; subst e; exact ⟨_, rfl, a⟩
  | _, _, i + 1, _, .cons a t, e => by
    obtain ⟨v, h1, h2⟩ := DpAll.getV (i := i) t (by simpa using e)
    exact ⟨v, by simpa using h1, h2⟩
theorem DpAll.set : ∀ {ds : List D} {vs : List V} (i : Nat) {d : D} {v : V}, DpAll K F vs ds → Dp K F v d → DpAll K F (vs.set i v) (ds.set i d)
  | _, _, _, _, _, .nil, _ => .nil
  | _, _, 0, _, _, .cons a t, h => .cons h t
  | _, _, i + 1, _, _, .cons a t, h => .cons a (DpAll.set i t h)
theorem DpAll.drop : ∀ {ds : List D} {vs : List V} (n : Nat), DpAll K F vs ds → DpAll K F (vs.drop n) (ds.drop n)
  | _, _, 0, h => h
  | _, _, _ + 1, .nil => .nil
  | _, _, n + 1, .cons _ t => DpAll.drop n t
theorem DpAll.take : ∀ {ds : List D} {vs : List V} (n : Nat), DpAll K F vs ds → DpAll K F (vs.take n) (ds.take n)
  | _, _, 0, _ => .nil
  | _, _, _ + 1, .nil => .nil
  | _, _, n + 1, .cons a t => .cons a (DpAll.take n t)
theorem DpAll.reverse : ∀ {ds : List D} {vs : List V}, DpAll K F vs ds → DpAll K F vs.reverse ds.reverse
  | _, _, .nil => .nil
  | _, _, .cons a t => by
    rw [List.reverse_cons, List.reverse_cons]
    exact (DpAll.reverse t).append (.cons a .nil)
theorem DpAll.dropLast : ∀ {ds : List D} {vs : List V}, DpAll K F vs ds → DpAll K F vs.dropLast ds.dropLast
  | _, _, .nil => .nil
  | _, _, .cons a .nil => .nil
  | _, _, .cons a (.cons b t) => .cons a (DpAll.dropLast (.cons b t))

end
end L2

namespace Ky
open PySem PySem.Spec L2
open PyProof.Rows hiding St
section
variable {K : PySem.W.Frag} {w : World} {F F' : Hp}

/-- the entries of a dict -/
inductive Ent (K : PySem.W.Frag) (F : Hp) : List (NestedKey × Addr × Value) → List (D × D) → Prop
  | nil : Ent K F [] []
  | cons {a : Addr} {u : Value} {v : V} {k d : D} {xs : List (NestedKey × Addr × Value)} {kvs : List (D × D)} :
      keyable k = true → Dp K F (.ref a) k → RelV v u → Dp K F v d → Ent K F xs kvs → Ent K F ((nk k, a, u) :: xs) ((k, d) :: kvs)
theorem Ent.mono (s : Same F F') : ∀ {xs : List (NestedKey × Addr × Value)} {kvs : List (D × D)}, Ent K F xs kvs → Ent K F' xs kvs
  | _, _, .nil => .nil
  | _, _, .cons h1 h2 h3 h4 t => .cons h1 (h2.mono s) h3 (h4.mono s) (Ent.mono s t)
theorem Ent.length : ∀ {xs : List (NestedKey × Addr × Value)} {kvs : List (D × D)}, Ent K F xs kvs → xs.length = kvs.length
  | _, _, .nil => rfl
  | _, _, .cons _ _ _ _ t => by simp [Ent.length t]
/-- the dict's object -/
structure DicR (K : PySem.W.Frag) (w : World) (F : Hp) (o : Obj) (kvs : List (D × D)) : Prop where
  ex : o.ExactDict
  es : ∃ (es : Array DictEntry) (ep : Nat) (xs : List (NestedKey × Addr × Value)), o.data = .dict es ep ∧ es.toList = xs.map (fun x => ⟨NestedKey.hash w x.1, .ref x.2.1, x.2.2⟩) ∧ (xs.map (·.1)).Nodup ∧ Ent K F xs kvs
  len : kvs.length ≤ SL
theorem DicR.mono (s : Same F F') {o : Obj} {kvs : List (D × D)} (h : DicR K w F o kvs) : DicR K w F' o kvs :=
  ⟨h.ex, let ⟨es, ep, xs, a, b, c, e⟩ := h.es; ⟨es, ep, xs, a, b, c, e.mono s⟩, h.len⟩
/-- an object, by its content -/
inductive ObR (K : PySem.W.Frag) (w : World) (F : Hp) (a : Addr) : HO → D → Prop
  | lst {xs : List V} {ds : List D} : DpAll K F xs ds → xs.length ≤ SL → ObR K w F a (.lst xs) (.list ds)
  | dic {o : Obj} {kvs : List (D × D)} : DicR K w F o kvs → ObR K w F a (RawO a o) (.dict kvs)
theorem ObR.mono (s : Same F F') {a : Addr} {o : HO} {d : D} (h : ObR K w F a o d) : ObR K w F' a o d := by
  cases h with
  | lst h1 h2 => exact .lst (h1.mono s) h2
  | dic h1 => exact .dic (h1.mono s)
/-- a frozen value -/
inductive Rv (K : PySem.W.Frag) (w : World) (F : Hp) : V → D → Prop
  | dat {v : V} {d : D} : Dp K F v d → Rv K w F v d
  | dic {a : Addr} {o : Obj} {kvs : List (D × D)} : F a = some (RawO a o) → DicR K w F o kvs → Rv K w F (.ref a) (.dict kvs)
theorem Rv.mono (s : Same F F') {v : V} {d : D} (h : Rv K w F v d) : Rv K w F' v d := by
  cases h with
  | dat h1 => exact .dat (h1.mono s)
  | dic h1 h2 => exact .dic (s _ _ h1) (h2.mono s)
theorem ObR.frozen {a : Addr} {o : HO} {d : D} (h : ObR K w F a o d) (e : F' a = some o) (s : Same F F') : Rv K w F' (.ref a) d := by
  cases h with
  | lst h1 h2 => exact .dat (.lst (SqL.of e) (h1.mono s))
  | dic h1 => exact .dic e (h1.mono s)
/-- lists and dicts are objects of their own -/
def isMut : D → Bool
  | .list _ => true
  | .dict _ => true
  | _ => false
/-- what a slot's content, or a result, is -/
def Rs (K : PySem.W.Frag) (w : World) (F H : Hp) (v : V) : Sl → Prop
  | .emp => False
  | .fz d => Rv K w F v d
  | .ow d => if isMut d = true then ∃ a o, v = .ref a ∧ F a = none ∧ H a = some o ∧ ObR K w F a o d else Rv K w F v d
end
end Ky
end

section
set_option autoImplicit false
set_option linter.all false
set_option maxRecDepth 100000
set_option Elab.async false
/-! The state's relation, readings, how they compose. -/
namespace Ky
open PySem PySem.Spec L2
open PyProof.Rows hiding St

theorem same_upd {H : Hp} {p : Addr} {o : HO} (h : H p = none) : Same H (upd H p o) := fun b x e => by
  rw [upd_ne (ne_of_none e h)]
  exact e
theorem upd_sub {F H : Hp} {p : Addr} {o : HO} (s : Same F H) : Same (upd F p o) (upd H p o) := fun b x e => by
  by_cases hb : b = p
  · subst hb; rw [upd_same] at e ⊢; exact e
  · rw [upd_ne hb] at e ⊢; exact s _ _ e

def OwnI (env : En) (σ : St) (i : Nat) (a : Addr) : Prop := ∃ d, env[i]? = some (.ow d) ∧ isMut d = true ∧ σ[i]? = some (some (.ref a))
def Own (env : En) (σ : St) (a : Addr) : Prop := ∃ i, OwnI env σ i a
/-- the slots against the values -/
structure Rel (K : PySem.W.Frag) (w : World) (F : Hp) (env : En) (σ : St) (H : Hp) : Prop where
  sub : Same F H
  len : env.length = σ.length
  slot : ∀ (i : Nat) (s : Sl), env[i]? = some s → s = .emp ∨ ∃ v, σ[i]? = some (some v) ∧ Rs K w F H v s
  apart : ∀ i j a, OwnI env σ i a → OwnI env σ j a → i = j
/-- how the heap moved: what is frozen stays, what is not O's stays -/
structure Mv (F H : Hp) (O : Addr → Prop) (F' H' : Hp) : Prop where
  ff : Same F F'
  fr : ∀ b o, H b = some o → ¬ O b → H' b = some o
  nw : ∀ b o, H b = some o → ¬ O b → ∀ o', F' b = some o' → F b = some o'
  dm : ∀ b o, H b = some o → ∃ o', H' b = some o'
section
variable {K : PySem.W.Frag} {w : World} {F F' F1 F2 H H' H1 H2 : Hp} {O O1 : Addr → Prop} {env env1 env2 : En} {σ : St}
theorem Rs.own_mut {v : V} {d : D} (h : isMut d = true) : Rs K w F H v (.ow d) = ∃ a o, v = .ref a ∧ F a = none ∧ H a = some o ∧ ObR K w F a o d := if_pos h
theorem Rs.own_imm {v : V} {d : D} (h : ¬ isMut d = true) : Rs K w F H v (.ow d) = Rv K w F v d := if_neg h
theorem Mv.refl : Mv F H O F H := ⟨Same.refl F, fun _ _ e _ => e, fun _ _ _ _ _ e => e, fun _ o e => ⟨o, e⟩⟩
theorem Mv.trans (a : Mv F H O F1 H1) (b : Mv F1 H1 O1 F2 H2) (h : ∀ c, O1 c → O c ∨ H c = none) : Mv F H O F2 H2 := by
  have hn : ∀ c o, H c = some o → ¬ O c → ¬ O1 c := fun c o e n q => by
    rcases h c q with z | z
    · exact n z
    · rw [e] at z; cases z
  refine ⟨a.ff.trans b.ff, fun c o e n => b.fr c o (a.fr c o e n) (hn c o e n), fun c o e n o' q => a.nw c o e n o' (b.nw c o (a.fr c o e n) (hn c o e n) o' q), fun c o e => ?_⟩
  obtain ⟨o1, e1⟩ := a.dm c o e
  exact b.dm c o1 e1
/-- nothing was changed; new things came -/
structure PExt (F H F' H' : Hp) : Prop where
  ff : Same F F'
  hh : Same H H'
  sub : Same F' H'
  nw : ∀ b o o', H b = some o → F' b = some o' → F b = some o'
theorem PExt.refl (s : Same F H) : PExt F H F H := ⟨Same.refl F, Same.refl H, s, fun _ _ _ _ e => e⟩
theorem PExt.trans (a : PExt F H F1 H1) (b : PExt F1 H1 F2 H2) : PExt F H F2 H2 :=
  ⟨a.ff.trans b.ff, a.hh.trans b.hh, b.sub, fun c o o' e q => a.nw c o o' e (b.nw c o o' (a.hh _ _ e) q)⟩
theorem PExt.mv (a : PExt F H F' H') : Mv F H O F' H' := ⟨a.ff, fun b o e _ => a.hh b o e, fun b o e _ o' q => a.nw b o o' e q, fun b o e => ⟨o, a.hh b o e⟩⟩
theorem PExt.keep (a : PExt F H F' H') {b : Addr} {o : HO} (e : H b = some o) (n : F b = none) : F' b = none := by
  cases q : F' b with
  | none => rfl
  | some o' => rw [a.nw b o o' e q] at n; cases n
/-- a new frozen object -/
theorem PExt.new {p : Addr} {o : HO} (s : Same F H) (hp : H p = none) : PExt F H (upd F p o) (upd H p o) := by
  have fp : F p = none := Same.free s hp
  refine ⟨same_upd fp, same_upd hp, upd_sub s, fun b x y e q => ?_⟩
  rw [upd_ne (ne_of_none e hp)] at q
  exact q
/-- a new own object -/
theorem PExt.own {p : Addr} {o : HO} (s : Same F H) (hp : H p = none) : PExt F H F (upd H p o) := ⟨Same.refl F, same_upd hp, s.trans (same_upd hp), fun _ _ _ _ q => q⟩
theorem Rs.ext (a : PExt F H F' H') {v : V} {s : Sl} (h : Rs K w F H v s) : Rs K w F' H' v s := by
  cases s with
  | emp => exact h
  | fz d => exact Rv.mono a.ff h
  | ow d =>
    by_cases hm : isMut d = true
    · rw [Rs.own_mut hm] at h ⊢
      obtain ⟨b, o, e, n, q, r⟩ := h
      exact ⟨b, o, e, a.keep q n, a.hh _ _ q, r.mono a.ff⟩
    · rw [Rs.own_imm hm] at h ⊢
      exact Rv.mono a.ff h
theorem Rel.ext (r : Rel K w F env σ H) (a : PExt F H F' H') : Rel K w F' env σ H' := by
  refine ⟨a.sub, r.len, fun i s e => ?_, r.apart⟩
  rcases r.slot i s e with z | ⟨v, h1, h2⟩
  · exact .inl z
  · exact .inr ⟨v, h1, h2.ext a⟩
theorem Rel.own (r : Rel K w F env σ H) {a : Addr} (h : Own env σ a) : F a = none ∧ ∃ o, H a = some o := by
  obtain ⟨i, d, e, m, s⟩ := h
  rcases r.slot i _ e with z | ⟨v, h1, h2⟩
  · cases z
  · rw [s] at h1
    cases h1
    rw [Rs.own_mut m] at h2
    obtain ⟨b, o, e1, n, q, _⟩ := h2
    cases e1
    exact ⟨n, o, q⟩

/-- a step of the slots and the heap -/
structure Stp (K : PySem.W.Frag) (w : World) (F : Hp) (env : En) (σ : St) (H : Hp) (env1 : En) (F' H' : Hp) : Prop where
  mv : Mv F H (Own env σ) F' H'
  rel : Rel K w F' env1 σ H'
  os : ∀ a, Own env1 σ a → Own env σ a
theorem Stp.refl (r : Rel K w F env σ H) : Stp K w F env σ H env F H := ⟨Mv.refl, r, fun _ h => h⟩
theorem Stp.trans (a : Stp K w F env σ H env1 F1 H1) (b : Stp K w F1 env1 σ H1 env2 F2 H2) : Stp K w F env σ H env2 F2 H2 :=
  ⟨a.mv.trans b.mv fun c h => .inl (a.os c h), b.rel, fun c h => a.os c (b.os c h)⟩
theorem Stp.ext (a : Stp K w F env σ H env1 F1 H1) (b : PExt F1 H1 F2 H2) : Stp K w F env σ H env1 F2 H2 :=
  a.trans ⟨b.mv, a.rel.ext b, fun _ h => h⟩
theorem Stp.new (a : Stp K w F env σ H env1 F1 H1) {c : Addr} (h : H1 c = none) : H c = none := by
  cases q : H c with
  | none => rfl
  | some o =>
    obtain ⟨o', e⟩ := a.mv.dm c o q
    rw [h] at e; cases e
/-- a result: frozen, or an own new object -/
structure EPost (K : PySem.W.Frag) (w : World) (F : Hp) (env : En) (σ : St) (H : Hp) (s : Sl) (env1 : En) (v : V) (F' H' : Hp) : Prop where
  st : Stp K w F env σ H env1 F' H'
  val : Rs K w F' H' v s
  new : ∀ d a, s = .ow d → isMut d = true → v = .ref a → H a = none
/-- .. frozen -/
structure FPost (K : PySem.W.Frag) (w : World) (F : Hp) (env : En) (σ : St) (H : Hp) (d : D) (env1 : En) (v : V) (F' H' : Hp) : Prop where
  st : Stp K w F env σ H env1 F' H'
  val : Rv K w F' v d
/-- an own object off the slots is frozen -/
theorem Rel.freeze (r : Rel K w F env σ H) {a : Addr} {o : HO} (n : F a = none) (q : H a = some o) (no : ¬ Own env σ a) : Rel K w (upd F a o) env σ H := by
  refine ⟨fun b x e1 => ?_, r.len, fun i s e1 => ?_, r.apart⟩
  · by_cases hb : b = a
    · subst hb; rw [upd_same] at e1; cases e1; exact q
    · rw [upd_ne hb] at e1; exact r.sub b x e1
  · rcases r.slot i s e1 with z | ⟨u, h1, h2⟩
    · exact .inl z
    · refine .inr ⟨u, h1, ?_⟩
      cases s with
      | emp => exact h2
      | fz d' => exact Rv.mono (same_upd n) h2
      | ow d' =>
        by_cases hm' : isMut d' = true
        · rw [Rs.own_mut hm'] at h2 ⊢
          obtain ⟨b, o2, e2, n2, q2, r2⟩ := h2
          subst e2
          have hne : b ≠ a := fun z => by
            subst z
            exact no ⟨i, d', e1, hm', h1⟩
          exact ⟨b, o2, rfl, by rw [upd_ne hne]; exact n2, q2, r2.mono (same_upd n)⟩
        · rw [Rs.own_imm hm'] at h2 ⊢
          exact Rv.mono (same_upd n) h2
theorem EPost.freeze (r0 : Rel K w F env σ H) {s : Sl} {v : V} (h : EPost K w F env σ H s env1 v F' H') : ∃ F2, FPost K w F env σ H s.dat env1 v F2 H' := by
  cases s with
  | emp => exact h.val.elim
  | fz d => exact ⟨F', h.st, h.val⟩
  | ow d =>
    have hv := h.val
    by_cases hm : isMut d = true
    · rw [Rs.own_mut hm] at hv
      obtain ⟨a, o, e, n, q, r⟩ := hv
      subst e
      have hn : H a = none := h.new d a rfl hm rfl
      have no : ¬ Own env1 σ a := fun z => by
        obtain ⟨_, o3, q3⟩ := r0.own (h.st.os a z)
        rw [hn] at q3; cases q3
      refine ⟨upd F' a o, ⟨⟨h.st.mv.ff.trans (same_upd n), h.st.mv.fr, fun b x e1 ho o' q' => ?_, h.st.mv.dm⟩, h.st.rel.freeze n q no, h.st.os⟩, r.frozen upd_same (same_upd n)⟩
      rw [upd_ne (ne_of_none e1 hn)] at q'
      exact h.st.mv.nw b x e1 ho o' q'
    · rw [Rs.own_imm hm] at hv
      exact ⟨F', h.st, hv⟩
end

/-! ### readings -/
theorem _root_.L2.PE.weak {X : Cx} {e : Expr} {t t' : TE} (h : PE X e t) (k : ∀ σ H Q, t' σ H Q → t σ H Q) : PE X e t' := ⟨fun pins s σ H Q I q => h.run pins s σ H Q I (k σ H Q q)⟩
theorem _root_.L2.PT.weak {X : Cx} {e : Expr} {t t' : TT} (h : PT X e t) (k : ∀ σ H Q, t' σ H Q → t σ H Q) : PT X e t' := ⟨fun pins s σ H Q I q => h.run pins s σ H Q I (k σ H Q q)⟩
theorem _root_.L2.PW.weak {X : Cx} {e : Expr} {t t' : TT} (h : PW X e t) (k : ∀ σ H Q, t' σ H Q → t σ H Q) : PW X e t' := ⟨fun wh pins s σ H Q I q => h.run wh pins s σ H Q I (k σ H Q q)⟩
theorem _root_.L2.PA.weak {X : Cx} {e : List Expr} {t t' : TA} (h : PA X e t) (k : ∀ σ H Q, t' σ H Q → t σ H Q) : PA X e t' := ⟨fun p pins s σ H Q I q => h.run p pins s σ H Q I (k σ H Q q)⟩
theorem _root_.L2.PS.weak {X : Cx} {e : Stmt} {t t' : TS} (h : PS X e t) (k : ∀ D σ H, t' D σ H → t D σ H) : PS X e t' := ⟨fun pins s σ H D I q => h.run pins s σ H D I (k D σ H q)⟩
theorem _root_.L2.PSs.weak {X : Cx} {e : List Stmt} {t t' : TS} (h : PSs X e t) (k : ∀ D σ H, t' D σ H → t D σ H) : PSs X e t' := ⟨fun pins s σ H D I q => h.run pins s σ H D I (k D σ H q)⟩
section
variable (K : PySem.W.Frag) (w : World)
def tO (ev : En → Option (Sl × En)) : TE := fun σ H Q => ∃ F env s env1, Rel K w F env σ H ∧ ev env = some (s, env1) ∧ ∀ v F' H', EPost K w F env σ H s env1 v F' H' → Q v H'
def tF (ev : En → Option (Sl × En)) : TE := fun σ H Q => ∃ F env s env1, Rel K w F env σ H ∧ ev env = some (s, env1) ∧ ∀ v F' H', FPost K w F env σ H s.dat env1 v F' H' → Q v H'
/-- an operand's value -/
def WR (F : Hp) (σ : St) (v : V) : Wv → Prop
  | .val d => Rv K w F v d
  | .at i => σ[i]? = some (some v)
def RvW (F H : Hp) (v : V) (d : D) : Prop := Rv K w F v d ∨ ∃ a o, v = .ref a ∧ H a = some o ∧ ObR K w F a o d
def tW (ev : En → Option (Wv × En)) : TE := fun σ H Q => ∃ F env x env1, Rel K w F env σ H ∧ ev env = some (x, env1) ∧ ∀ v F' H', Stp K w F env σ H env1 F' H' → WR K w F' σ v x → Q v H'
/-- what a primitive gives -/
structure PPost (F H : Hp) (b : Bool) (r : D) (v : V) (F' H' : Hp) : Prop where
  ext : PExt F H F' H'
  val : Rs K w F' H' v (.mk b r)
  new : b = true → isMut r = true → ∀ a, v = .ref a → H a = none
end
section
variable {K : PySem.W.Frag} {w : World} {F F' F1 F2 H H' H1 H2 : Hp} {env env1 env2 : En} {σ : St} {X : Cx} {e : Expr}
theorem PE.frz {ev : En → Option (Sl × En)} (h : PE X e (tO X.K X.w ev)) : PE X e (tF X.K X.w ev) := h.weak fun σ H Q ⟨F, env, s, env1, r, q, k⟩ =>
  ⟨F, env, s, env1, r, q, fun v F' H' p => let ⟨F2, f⟩ := p.freeze r; k v F2 H' f⟩
theorem WR.mono {v : V} {x : Wv} (s : Same F F') (h : WR K w F σ v x) : WR K w F' σ v x := by
  cases x with
  | val d => exact Rv.mono s h
  | «at» i => exact h
theorem peek_slot {i : Nat} {d : D} (e : peek env i = some d) : env[i]? = some (.fz d) ∨ env[i]? = some (.ow d) := by
  unfold peek at e
  split at e
  · rename_i d' q
    cases e
    exact .inl q
  · rename_i d' q
    cases e
    exact .inr q
  · cases e
theorem WR.get (r : Rel K w F env σ H) {v : V} {x : Wv} {d : D} (h : WR K w F σ v x) (e : x.get env = some d) : RvW K w F H v d := by
  cases x with
  | val d' => cases e; exact .inl h
  | «at» i =>
    have e : peek env i = some d := e
    have h : σ[i]? = some (some v) := h
    rcases peek_slot e with q | q
    · rcases r.slot i _ q with z | ⟨u, h1, h2⟩
      · cases z
      · rw [h] at h1; cases h1; exact .inl h2
    · rcases r.slot i _ q with z | ⟨u, h1, h2⟩
      · cases z
      · rw [h] at h1; cases h1
        by_cases hm : isMut d = true
        · rw [Rs.own_mut hm] at h2
          obtain ⟨a, o, e1, n, q2, r2⟩ := h2
          exact .inr ⟨a, o, e1, q2, r2⟩
        · rw [Rs.own_imm hm] at h2
          exact .inl h2
theorem op_ex {ev : En → Option (Sl × En)} (h : PE X e (tO X.K X.w ev)) : PE X e (tW X.K X.w fun env => (ev env).map fun x => (.val x.1.dat, x.2)) := (PE.frz h).weak fun σ H Q ⟨F, env, x, env1, r, q, k⟩ => by
  obtain ⟨p, e, z⟩ := Option.map_eq_some_iff.mp q
  cases z
  exact ⟨F, env, p.1, p.2, r, e, fun v F' H' f => k v F' H' f.st f.val⟩
theorem op_pk {i : Nat} (h : PE X e (tVar i)) : PE X e (tW X.K X.w fun env => (peek env i).map fun _ => (.at i, env)) := h.weak fun σ H Q ⟨F, env, x, env1, r, q, k⟩ => by
  obtain ⟨d, e, z⟩ := Option.map_eq_some_iff.mp q
  cases z
  rcases peek_slot e with z | z
  · rcases r.slot i _ z with z | ⟨u, h1, h2⟩
    · cases z
    · exact ⟨u, h1, k u F H (Stp.refl r) h1⟩
  · rcases r.slot i _ z with z | ⟨u, h1, h2⟩
    · cases z
    · exact ⟨u, h1, k u F H (Stp.refl r) h1⟩
theorem PPost.post (a : Stp K w F env σ H env1 F1 H1) {b : Bool} {r : D} {v : V} (p : PPost K w F1 H1 b r v F2 H2) : EPost K w F env σ H (.mk b r) env1 v F2 H2 :=
  ⟨a.ext p.ext, p.val, fun d c e m q => by
    cases b with
    | false => cases e
    | true => cases e; exact a.new (p.new rfl m c q)⟩
/-- a value that is there, or is none of the heap's -/
theorem PPost.imm {r : D} {v : V} (s : Same F H) (h : Rv K w F v r) : PPost K w F H false r v F H := ⟨PExt.refl s, h, fun z => nomatch z⟩
theorem PPost.immT {r : D} {v : V} (s : Same F H) (m : isMut r = false) (h : Rv K w F v r) : PPost K w F H true r v F H :=
  ⟨PExt.refl s, by show Rs K w F H v (.ow r); rw [Rs.own_imm (by rw [m]; exact Bool.false_ne_true)]; exact h, fun _ z => by rw [m] at z; cases z⟩
/-- a new list, of one's own -/
theorem PPost.lst {p : Addr} {xs : List V} {ds : List D} (s : Same F H) (hp : H p = none) (h : DpAll K F xs ds) (l : xs.length ≤ SL) : PPost K w F H true (.list ds) (.ref p) F (upd H p (.lst xs)) :=
  ⟨PExt.own s hp, by
    show Rs K w F (upd H p (.lst xs)) (.ref p) (.ow (.list ds))
    rw [Rs.own_mut rfl]
    exact ⟨p, _, rfl, Same.free s hp, upd_same, .lst h l⟩, fun _ _ a e => by cases e; exact hp⟩
/-- a new tuple -/
theorem PPost.tup {p : Addr} {xs : List V} {ds : List D} (s : Same F H) (hp : H p = none) (h : DpAll K F xs ds) : PPost K w F H false (.tuple ds) (.ref p) (upd F p (.tup xs)) (upd H p (.tup xs)) :=
  ⟨PExt.new s hp, .dat (.tup (SqT.of upd_same) (h.mono (same_upd (Same.free s hp)))), fun z => nomatch z⟩
theorem PPost.tupT {p : Addr} {xs : List V} {ds : List D} (s : Same F H) (hp : H p = none) (h : DpAll K F xs ds) : PPost K w F H true (.tuple ds) (.ref p) (upd F p (.tup xs)) (upd H p (.tup xs)) :=
  ⟨PExt.new s hp, by
    show Rs K w _ _ _ (.ow (.tuple ds))
    rw [Rs.own_imm (by exact Bool.false_ne_true)]
    exact .dat (.tup (SqT.of upd_same) (h.mono (same_upd (Same.free s hp)))), fun _ z => nomatch z⟩
/-- what can be read now -/
theorem RvW.dp (s : Same F H) {v : V} {d : D} (h : RvW K w F H v d) (nd : noDict d = true) : Dp K H v d := by
  rcases h with h | ⟨a, o, e, q, r⟩
  · cases h with
    | dat h1 => exact h1.mono s
    | dic => cases nd
  · subst e
    cases r with
    | lst h1 h2 => exact .lst (SqL.of q) (h1.mono s)
    | dic => cases nd
theorem RvW.int {v : V} {d : D} (h : RvW K w F H v d) {i : Int} (e : d = .int i) : v = .int i := by
  subst e
  rcases h with h | ⟨a, o, e, q, r⟩
  · cases h with
    | dat h1 => cases h1; rfl
  · cases r
theorem RvW.bool {v : V} {d : D} (h : RvW K w F H v d) {b : Bool} (e : d = .bool b) : v = .bl b := by
  subst e
  rcases h with h | ⟨a, o, e, q, r⟩
  · cases h with
    | dat h1 => cases h1; rfl
  · cases r
theorem RvW.str {v : V} {d : D} (h : RvW K w F H v d) {b : Str} (e : d = .str b) : v = .str b := by
  subst e
  rcases h with h | ⟨a, o, e, q, r⟩
  · cases h with
    | dat h1 => cases h1; rfl
  · cases r
theorem RvW.list {v : V} {d : D} (s : Same F H) (h : RvW K w F H v d) {ds : List D} (e : d = .list ds) : ∃ a xs, v = .ref a ∧ SqL K H a xs ∧ DpAll K F xs ds := by
  subst e
  rcases h with h | ⟨a, o, e, q, r⟩
  · cases h with
    | dat h1 =>
      cases h1 with
      | lst hs ha => exact ⟨_, _, rfl, s.seq hs, ha⟩
  · cases r with
    | lst h1 h2 => exact ⟨a, _, e, SqL.of q, h1⟩
theorem RvW.tup {v : V} {d : D} (s : Same F H) (h : RvW K w F H v d) {ds : List D} (e : d = .tuple ds) : ∃ a xs, v = .ref a ∧ SqT K H a xs ∧ DpAll K F xs ds := by
  subst e
  rcases h with h | ⟨a, o, e, q, r⟩
  · cases h with
    | dat h1 =>
      cases h1 with
      | tup hs ha => exact ⟨_, _, rfl, s.seqT hs, ha⟩
  · cases r
theorem RvW.dict {v : V} {d : D} (s : Same F H) (h : RvW K w F H v d) {kvs : List (D × D)} (e : d = .dict kvs) : ∃ a o, v = .ref a ∧ H a = some (RawO a o) ∧ DicR K w F o kvs := by
  subst e
  rcases h with h | ⟨a, o, e, q, r⟩
  · cases h with
    | dat h1 => cases h1
    | dic h1 h2 => exact ⟨_, _, rfl, s _ _ h1, h2⟩
  · cases r with
    | dic h1 => exact ⟨a, _, e, q, h1⟩
end
end Ky
end

section
set_option autoImplicit false
set_option linter.all false
set_option maxRecDepth 100000
set_option Elab.async false
/-! The primitives, one by one. -/
namespace Ky
open PySem PySem.Spec L2
open PyProof.Rows hiding St
section
variable (K : PySem.W.Frag) (w : World)
def sem1 (p : P1) : V → Hp → VK → Prop := fun x H Q => ∃ F d r, Same F H ∧ RvW K w F H x d ∧ f1 p d = some r ∧ ∀ v F' H', PPost K w F H p.fresh r v F' H' → Q v H'
def sem2 (p : P2) : R2 := fun x y H Q => ∃ F d e r, Same F H ∧ RvW K w F H x d ∧ RvW K w F H y e ∧ f2 p d e = some r ∧ ∀ v F' H', PPost K w F H p.fresh r v F' H' → Q v H'
def sem3 (p : P3) : V → V → V → Hp → VK → Prop := fun x y z H Q => ∃ F d e g r, Same F H ∧ RvW K w F H x d ∧ RvW K w F H y e ∧ RvW K w F H z g ∧ f3 p d e g = some r ∧ ∀ v F' H', PPost K w F H p.fresh r v F' H' → Q v H'
end
section
variable {K : PySem.W.Frag} {w : World} {F F' F1 F2 H H' H1 H2 : Hp} {env env1 env2 : En} {σ : L2.St} {X : Cx} {a b c ast : Expr}
/-- a reading that takes a wider wish -/
def Mono (t : TE) : Prop := ∀ σ H (Q Q' : VK), (∀ v H', Q v H' → Q' v H') → t σ H Q → t σ H Q'
theorem tW_mono {ev : En → Option (Wv × En)} : Mono (tW K w ev) := fun σ H Q Q' h ⟨F, env, x, env1, r, q, k⟩ => ⟨F, env, x, env1, r, q, fun v F' H' a b => h v H' (k v F' H' a b)⟩
theorem p1_ok {p : P1} {ev : En → Option (Wv × En)} (ha : PE X a (tW X.K X.w ev)) (hr : ∀ t, Mono t → PE X a t → PE X ast (fun σ H Q => t σ H fun x H1 => sem1 X.K X.w p x H1 Q)) :
    PE X ast (tO X.K X.w fun env => (ev env).bind fun x => (x.1.get x.2).bind fun d => (f1 p d).map fun r => (.mk p.fresh r, x.2)) := (hr _ tW_mono ha).weak fun σ H Q ⟨F, env, s, env1, r, q, k⟩ => by
  obtain ⟨x, e1, q⟩ := Option.bind_eq_some_iff.mp q
  obtain ⟨d, e2, q⟩ := Option.bind_eq_some_iff.mp q
  obtain ⟨g, e3, z⟩ := Option.map_eq_some_iff.mp q
  cases z
  exact ⟨F, env, x.1, x.2, r, e1, fun v F1 H1 st wr => ⟨F1, d, g, st.rel.sub, wr.get st.rel e2, e3, fun v' F' H' pp => k v' F' H' (pp.post st)⟩⟩
theorem p2_ok {p : P2} {ev ev2 : En → Option (Wv × En)} (ha : PE X a (tW X.K X.w ev)) (hb : PE X b (tW X.K X.w ev2)) (hr : ∀ t u, Mono t → Mono u → PE X a t → PE X b u → PE X ast (fun σ H Q => t σ H fun x H1 => u σ H1 fun y H2 => sem2 X.K X.w p x y H2 Q)) :
    PE X ast (tO X.K X.w fun env => (ev env).bind fun x => (pre2 p (x.1.get x.2)).bind fun _ => (ev2 x.2).bind fun y => (x.1.get y.2).bind fun d => (y.1.get y.2).bind fun e => (f2 p d e).map fun r => (.mk p.fresh r, y.2)) := (hr _ _ tW_mono tW_mono ha hb).weak fun σ H Q ⟨F, env, s, env1, r, q, k⟩ => by
  obtain ⟨x, e1, q⟩ := Option.bind_eq_some_iff.mp q
  obtain ⟨_, _, q⟩ := Option.bind_eq_some_iff.mp q
  obtain ⟨y, e2, q⟩ := Option.bind_eq_some_iff.mp q
  obtain ⟨d, e3, q⟩ := Option.bind_eq_some_iff.mp q
  obtain ⟨e, e4, q⟩ := Option.bind_eq_some_iff.mp q
  obtain ⟨g, e5, z⟩ := Option.map_eq_some_iff.mp q
  cases z
  exact ⟨F, env, x.1, x.2, r, e1, fun v F1 H1 st wr => ⟨F1, x.2, y.1, y.2, st.rel, e2, fun u F2 H2 st2 wr2 => ⟨F2, d, e, g, st2.rel.sub, (wr.mono st2.mv.ff).get st2.rel e3, wr2.get st2.rel e4, e5, fun v' F' H' pp => k v' F' H' (pp.post (st.trans st2))⟩⟩⟩
theorem p3_ok {p : P3} {ev ev2 ev3 : En → Option (Wv × En)} (ha : PE X a (tW X.K X.w ev)) (hb : PE X b (tW X.K X.w ev2)) (hc : PE X c (tW X.K X.w ev3))
    (hr : ∀ t u z, Mono t → Mono u → Mono z → PE X a t → PE X b u → PE X c z → PE X ast (fun σ H Q => t σ H fun x H1 => u σ H1 fun y H2 => z σ H2 fun g H3 => sem3 X.K X.w p x y g H3 Q)) :
    PE X ast (tO X.K X.w fun env => (ev env).bind fun x => (pre3 p (x.1.get x.2)).bind fun _ => (ev2 x.2).bind fun y => (ev3 y.2).bind fun z => (x.1.get z.2).bind fun d => (y.1.get z.2).bind fun e => (z.1.get z.2).bind fun g => (f3 p d e g).map fun r => (.mk p.fresh r, z.2)) := (hr _ _ _ tW_mono tW_mono tW_mono ha hb hc).weak fun σ H Q ⟨F, env, s, env1, r, q, k⟩ => by
  obtain ⟨x, e1, q⟩ := Option.bind_eq_some_iff.mp q
  obtain ⟨_, _, q⟩ := Option.bind_eq_some_iff.mp q
  obtain ⟨y, e2, q⟩ := Option.bind_eq_some_iff.mp q
  obtain ⟨z, e3, q⟩ := Option.bind_eq_some_iff.mp q
  obtain ⟨d, e4, q⟩ := Option.bind_eq_some_iff.mp q
  obtain ⟨e, e5, q⟩ := Option.bind_eq_some_iff.mp q
  obtain ⟨g, e6, q⟩ := Option.bind_eq_some_iff.mp q
  obtain ⟨l, e7, zz⟩ := Option.map_eq_some_iff.mp q
  cases zz
  exact ⟨F, env, x.1, x.2, r, e1, fun v F1 H1 st wr => ⟨F1, x.2, y.1, y.2, st.rel, e2, fun u F2 H2 st2 wr2 => ⟨F2, y.2, z.1, z.2, st2.rel, e3, fun u3 F3 H3 st3 wr3 =>
    ⟨F3, d, e, g, l, st3.rel.sub, (wr.mono (st2.mv.ff.trans st3.mv.ff)).get st3.rel e4, (wr2.mono st3.mv.ff).get st3.rel e5, wr3.get st3.rel e6, e7, fun v' F' H' pp => k v' F' H' (pp.post ((st.trans st2).trans st3))⟩⟩⟩⟩

def TyD (x : V) (H : Hp) : Prop := ∃ a o, x = .ref a ∧ H a = some (RawO a o) ∧ o.ExactDict
theorem WR.tyD (r : Rel K w F env σ H) {v : V} {x : Wv} (h : WR K w F σ v x) {kvs : List (D × D)} (e : x.get env = some (.dict kvs)) : TyD v H := by
  obtain ⟨a, o, ev, hq, hd⟩ := (h.get r e).dict r.sub rfl
  exact ⟨a, o, ev, hq, hd.ex⟩
theorem get_ok {ev ev2 : En → Option (Wv × En)} (ha : PE X a (tW X.K X.w ev)) (hb : PE X b (tW X.K X.w ev2)) (hr : ∀ t u, Mono t → Mono u → PE X a t → PE X b u → PE X ast (fun σ H Q => t σ H fun x H1 => TyD x H1 ∧ u σ H1 fun y H2 => sem2 X.K X.w .get x y H2 Q)) :
    PE X ast (tO X.K X.w fun env => (ev env).bind fun x => (pre2 .get (x.1.get x.2)).bind fun _ => (ev2 x.2).bind fun y => (x.1.get y.2).bind fun d => (y.1.get y.2).bind fun e => (f2 .get d e).map fun r => (.mk P2.get.fresh r, y.2)) := (hr _ _ tW_mono tW_mono ha hb).weak fun σ H Q ⟨F, env, s, env1, r, q, k⟩ => by
  obtain ⟨x, e1, q⟩ := Option.bind_eq_some_iff.mp q
  obtain ⟨_, e0, q⟩ := Option.bind_eq_some_iff.mp q
  obtain ⟨y, e2, q⟩ := Option.bind_eq_some_iff.mp q
  obtain ⟨d, e3, q⟩ := Option.bind_eq_some_iff.mp q
  obtain ⟨e, e4, q⟩ := Option.bind_eq_some_iff.mp q
  obtain ⟨g, e5, z⟩ := Option.map_eq_some_iff.mp q
  cases z
  have e0' : ∃ kvs, x.1.get x.2 = some (.dict kvs) := by
    cases hx : x.1.get x.2 with
    | none => rw [hx] at e0; cases e0
    | some d => rw [hx] at e0; cases d <;> first | exact ⟨_, rfl⟩ | cases e0
  obtain ⟨kvs, e0'⟩ := e0'
  exact ⟨F, env, x.1, x.2, r, e1, fun v F1 H1 st wr => ⟨wr.tyD st.rel e0', F1, x.2, y.1, y.2, st.rel, e2, fun u F2 H2 st2 wr2 => ⟨F2, d, e, g, st2.rel.sub, (wr.mono st2.mv.ff).get st2.rel e3, wr2.get st2.rel e4, e5, fun v' F' H' pp => k v' F' H' (pp.post (st.trans st2))⟩⟩⟩
theorem getOr_ok {ev ev2 ev3 : En → Option (Wv × En)} (ha : PE X a (tW X.K X.w ev)) (hb : PE X b (tW X.K X.w ev2)) (hc : PE X c (tW X.K X.w ev3))
    (hr : ∀ t u z, Mono t → Mono u → Mono z → PE X a t → PE X b u → PE X c z → PE X ast (fun σ H Q => t σ H fun x H1 => TyD x H1 ∧ u σ H1 fun y H2 => z σ H2 fun g H3 => sem3 X.K X.w .get x y g H3 Q)) :
    PE X ast (tO X.K X.w fun env => (ev env).bind fun x => (pre3 .get (x.1.get x.2)).bind fun _ => (ev2 x.2).bind fun y => (ev3 y.2).bind fun z => (x.1.get z.2).bind fun d => (y.1.get z.2).bind fun e => (z.1.get z.2).bind fun g => (f3 .get d e g).map fun r => (.mk P3.get.fresh r, z.2)) := (hr _ _ _ tW_mono tW_mono tW_mono ha hb hc).weak fun σ H Q ⟨F, env, s, env1, r, q, k⟩ => by
  obtain ⟨x, e1, q⟩ := Option.bind_eq_some_iff.mp q
  obtain ⟨_, e0, q⟩ := Option.bind_eq_some_iff.mp q
  obtain ⟨y, e2, q⟩ := Option.bind_eq_some_iff.mp q
  obtain ⟨z, e3, q⟩ := Option.bind_eq_some_iff.mp q
  obtain ⟨d, e4, q⟩ := Option.bind_eq_some_iff.mp q
  obtain ⟨e, e5, q⟩ := Option.bind_eq_some_iff.mp q
  obtain ⟨g, e6, q⟩ := Option.bind_eq_some_iff.mp q
  obtain ⟨l, e7, zz⟩ := Option.map_eq_some_iff.mp q
  cases zz
  have e0' : ∃ kvs, x.1.get x.2 = some (.dict kvs) := by
    cases hx : x.1.get x.2 with
    | none => rw [hx] at e0; cases e0
    | some d => rw [hx] at e0; cases d <;> first | exact ⟨_, rfl⟩ | cases e0
  obtain ⟨kvs, e0'⟩ := e0'
  exact ⟨F, env, x.1, x.2, r, e1, fun v F1 H1 st wr => ⟨wr.tyD st.rel e0', F1, x.2, y.1, y.2, st.rel, e2, fun u F2 H2 st2 wr2 => ⟨F2, y.2, z.1, z.2, st2.rel, e3, fun u3 F3 H3 st3 wr3 =>
    ⟨F3, d, e, g, l, st3.rel.sub, (wr.mono (st2.mv.ff.trans st3.mv.ff)).get st3.rel e4, (wr2.mono st3.mv.ff).get st3.rel e5, wr3.get st3.rel e6, e7, fun v' F' H' pp => k v' F' H' (pp.post ((st.trans st2).trans st3))⟩⟩⟩⟩

/-! values at once -/
theorem Rv.int {i : Int} : Rv K w F (.int i) (.int i) := .dat (.int i)
theorem Rv.bool {b : Bool} : Rv K w F (.bl b) (.bool b) := .dat (.bl b)
theorem Rv.str {b : Str} : Rv K w F (.str b) (.str b) := .dat (.str b)
theorem Rv.none : Rv K w F .non .none := .dat .non

/-! one operand -/
theorem r_neg : UnR X (unaryOp .USub) (sem1 X.K X.w .neg) := fun pins s σ H x v Q I rx ⟨F, d, r, sub, hv, e, k⟩ => by
  cases d <;> simp only [f1, reduceCtorEq, Option.some.injEq] at e
  subst e
  exact un_neg pins s σ H x v Q I rx ⟨_, hv.int rfl, k _ F H (.imm sub .int)⟩
theorem r_abs : CallR X (.builtin "abs") (fun vs H Q => ∃ x, vs = [x] ∧ sem1 X.K X.w .abs x H Q) := fun pins s σ H xs us Q I rx ⟨x, ex, F, d, r, sub, hv, e, k⟩ => by
  cases d <;> simp only [f1, reduceCtorEq, Option.some.injEq] at e
  subst e
  exact call_abs pins s σ H xs us Q I rx ⟨_, by rw [ex, hv.int rfl], k _ F H (.imm sub .int)⟩
end
end Ky
end

section
set_option autoImplicit false
set_option linter.all false
set_option maxRecDepth 100000
set_option Elab.async false
/-! Dicts of the heap. -/
namespace Ky
open PySem PySem.Spec L2
open PyProof.Rows hiding St
theorem SL_eq : SL = sizeLine := sizeLine_eq.symm
section
variable {X : Cx} {pins : List (Addr × Obj)} {σ : L2.St} {H F : Hp} {s : Shared}
mutual
theorem key_is (I : Inv X pins σ H s) : ∀ (d : D) (v : V) (u : Value), keyIn d = true → Dp X.K H v d → RelV v u → NestedIs s.heap (nk d) u
  | .none, _, _, _, h, r => by cases h; cases r; exact .none
  | .bool b, _, _, _, h, r => by cases h; cases r; exact .bool rfl
  | .int i, _, _, _, h, r => by cases h; obtain ⟨t, rfl⟩ := r; exact .int _ _
  | .str x, _, _, _, h, r => by cases h; obtain ⟨t, rfl⟩ := r; exact .text _ _
  | .tuple ds, _, _, k, h, r => by
    cases h with
    | tup hs ha =>
      cases r
      obtain ⟨its, rv, ⟨o, ho, hc, n, hd⟩, _⟩ := I.tuple hs
      exact .tup ho hc hd (keys_are I ds _ its (by simpa [keyIn] using k) ha rv)
  | .list _, _, _, k, _, _ => by simp [keyIn] at k
  | .dict _, _, _, k, _, _ => by simp [keyIn] at k
theorem keys_are (I : Inv X pins σ H s) : ∀ (ds : List D) (vs : List V) (us : List Value), keyAll ds = true → DpAll X.K H vs ds → Vals vs us → NestedAll s.heap (nks ds) us
  | [], _, _, _, h, r => by cases h; cases r; exact .nil
  | d :: ds, _, _, k, h, r => by
    simp only [keyAll, Bool.and_eq_true] at k
    cases h with
    | cons h1 h2 =>
      cases r with
      | cons r1 r2 => exact .cons (key_is I d _ _ k.1 h1 r1) (keys_are I ds _ _ k.2 h2 r2)
end
theorem keyable_is (I : Inv X pins σ H s) {d : D} {a : Addr} (k : keyable d = true) (h : Dp X.K H (.ref a) d) : (nestedKind X.prog X.w).is s.heap (nk d) a := by
  simp only [keyable, Bool.and_eq_true, decide_eq_true_eq] at k
  exact ⟨key_is I d (.ref a) (.ref a) k.1.2 h rfl, Nat.le_trans (nk_depth d) k.2⟩
theorem keyable_ref {d : D} {v : V} (k : keyable d = true) (h : Dp X.K H v d) : ∃ a, v = .ref a := by
  simp only [keyable, Bool.and_eq_true] at k
  cases d <;> simp only [isTuple, Bool.false_eq_true, false_and, and_false] at k
  cases h with
  | tup hs ha => exact ⟨_, rfl⟩
theorem Ent.are (I : Inv X pins σ H s) (sub : Same F H) : ∀ {xs : List (NestedKey × Addr × Value)} {kvs : List (D × D)}, Ent X.K F xs kvs → ∀ x ∈ xs, (nestedKind X.prog X.w).is s.heap x.1 x.2.1
  | _, _, .nil, _, h => nomatch h
  | _, _, .cons h1 h2 h3 h4 t, x, h => by
    rcases List.mem_cons.mp h with e | h
    · subst e
      exact keyable_is I h1 (h2.mono sub)
    · exact Ent.are I sub t x h
theorem nk_same {a b : D} (ha : keyable a = true) (hb : keyable b = true) : decide (nk a = nk b) = PyData.eqv a b := by
  simp only [keyable, Bool.and_eq_true] at ha hb
  rw [NestedKey.decide_eq, nk_eqv a b ha.1.2 hb.1.2]
theorem Ent.look {K : PySem.W.Frag} {k : D} (hk : keyable k = true) : ∀ {xs : List (NestedKey × Addr × Value)} {kvs : List (D × D)}, Ent K F xs kvs →
    (dlook kvs k = none ∧ valueAt (pairsH xs) (nk k) = none ∧ dhas kvs k = false) ∨ ∃ d u v, dlook kvs k = some d ∧ valueAt (pairsH xs) (nk k) = some u ∧ dhas kvs k = true ∧ RelV v u ∧ Dp K F v d
  | _, _, .nil => .inl ⟨rfl, rfl, rfl⟩
  | _, _, .cons (k := k') (d := d) (u := u) (v := v) h1 h2 h3 h4 t => by
    have e := nk_same h1 hk
    cases he : PyData.eqv k' k with
    | true =>
      rw [he, decide_eq_true_eq] at e
      refine .inr ⟨d, u, v, ?_, ?_, ?_, h3, h4⟩
      · simp [dlook, he]
      · simp [valueAt, pairsH, e]
      · simp [dhas, he]
    | false =>
      rw [he, decide_eq_false_iff_not] at e
      rcases Ent.look hk t with ⟨a, b, c⟩ | ⟨d', u', v', a, b, c, r⟩
      · refine .inl ⟨?_, ?_, ?_⟩
        · simpa [dlook, he] using a
        · simpa [valueAt, pairsH, e] using b
        · simpa [dhas, he] using c
      · refine .inr ⟨d', u', v', ?_, ?_, ?_, r⟩
        · simpa [dlook, he] using a
        · simpa [valueAt, pairsH, e] using b
        · simpa [dhas, he] using c
/-- the dict at a, for the library's rules -/
theorem DicR.at (I : Inv X pins σ H s) (sub : Same F H) {a : Addr} {o : Obj} {kvs : List (D × D)} (q : H a = some (RawO a o)) (h : DicR X.K X.w F o kvs) :
    (a == sysModules) = false ∧ s.heap.get? a = some o ∧ ∃ xs, s.heap.DictOfH (nestedKind X.prog X.w) a xs ∧ Ent X.K F xs kvs := by
  obtain ⟨p, _, _⟩ := I.hok a _ q
  obtain ⟨es, ep, xs, hd, he, hn, t⟩ := h.es
  exact ⟨p.2, p.1, xs, ⟨o, es, ep, p.1, h.ex, hd, he, t.are I sub, hn⟩, t⟩
theorem DicR.keyed (I : Inv X pins σ H s) (sub : Same F H) {a : Addr} {o : Obj} {kvs : List (D × D)} (q : H a = some (RawO a o)) (h : DicR X.K X.w F o kvs) :
    (a == sysModules) = false ∧ ∃ xs, s.heap.DictKeyed (nestedKind X.prog X.w) a (pairsH xs) ∧ Ent X.K F xs kvs := by
  obtain ⟨h1, _, xs, h2, t⟩ := h.at I sub q
  exact ⟨h1, xs, ⟨xs, h2, rfl⟩, t⟩

theorem room8 {k : Nat} {A : Around} (hr : Room k A) : A.units + 1 + 1 + 8 < cLine := by have := hr.un; omega
/-- k in d -/
theorem r_in_dict {k : Nat} (hr : Room k X.A) {x y : V} {v u : Value} {Q : VK} {d : D} {kvs : List (D × D)} (I : Inv X pins σ H s) (rx : RelV x v) (ry : RelV y u) (sub : Same F H)
    (hk : keyable d = true) (hx : RvW X.K X.w F H x d) (hy : RvW X.K X.w F H y (.dict kvs)) (q : Q (.bl (dhas kvs d)) H) : wpAny (model X.prog X.w) X.A (compareOp .In v u) (EP X pins σ Q) X.xe s := by
  obtain ⟨a, o, e, hq, hd⟩ := hy.dict sub rfl
  have nd : noDict d = true := by
    cases d <;> first | rfl | (simp [keyable, isTuple] at hk)
  have hx' := hx.dp sub nd
  obtain ⟨b, e2⟩ := keyable_ref hk hx'
  subst e e2
  cases rx
  cases ry
  obtain ⟨h1, xs, h2, t⟩ := hd.keyed I sub hq
  refine in_keyed (by show X.A.units + 1 + 8 < cLine; have := hr.un; omega) (keyable_is I hk hx') h1 h2 ?_
  refine ⟨.bl _, H, I.tok _, rfl, ?_⟩
  rcases t.look hk with ⟨_, b, c⟩ | ⟨_, _, _, _, b, c, _⟩
  · rw [b]; rw [c] at q; exact q
  · rw [b]; rw [c] at q; exact q
theorem r_notin_dict {k : Nat} (hr : Room k X.A) {x y : V} {v u : Value} {Q : VK} {d : D} {kvs : List (D × D)} (I : Inv X pins σ H s) (rx : RelV x v) (ry : RelV y u) (sub : Same F H)
    (hk : keyable d = true) (hx : RvW X.K X.w F H x d) (hy : RvW X.K X.w F H y (.dict kvs)) (q : Q (.bl (!dhas kvs d)) H) : wpAny (model X.prog X.w) X.A (compareOp .NotIn v u) (EP X pins σ Q) X.xe s := by
  obtain ⟨a, o, e, hq, hd⟩ := hy.dict sub rfl
  have nd : noDict d = true := by
    cases d <;> first | rfl | (simp [keyable, isTuple] at hk)
  have hx' := hx.dp sub nd
  obtain ⟨b, e2⟩ := keyable_ref hk hx'
  subst e e2
  cases rx
  cases ry
  obtain ⟨h1, xs, h2, t⟩ := hd.keyed I sub hq
  refine notIn_keyed (by show X.A.units + 1 + 8 < cLine; have := hr.un; omega) (keyable_is I hk hx') h1 h2 ?_
  refine ⟨.bl _, H, I.tok _, rfl, ?_⟩
  rcases t.look hk with ⟨_, b, c⟩ | ⟨_, _, _, _, b, c, _⟩
  · rw [b]; rw [c] at q; exact q
  · rw [b]; rw [c] at q; exact q
/-- d[k] -/
theorem r_ix_dict {k : Nat} (hr : Room k X.A) {x y : V} {v u : Value} {Q : VK} {d r : D} {kvs : List (D × D)} (I : Inv X pins σ H s) (rx : RelV x v) (ry : RelV y u) (sub : Same F H)
    (hk : keyable d = true) (hx : RvW X.K X.w F H x (.dict kvs)) (hy : RvW X.K X.w F H y d) (hl : dlook kvs d = some r) (q : ∀ z, Dp X.K F z r → Q z H) : wpAny (model X.prog X.w) X.A (getItem v u) (EP X pins σ Q) X.xe s := by
  obtain ⟨a, o, e, hq, hd⟩ := hx.dict sub rfl
  have nd : noDict d = true := by
    cases d <;> first | rfl | (simp [keyable, isTuple] at hk)
  have hy' := hy.dp sub nd
  obtain ⟨b, e2⟩ := keyable_ref hk hy'
  subst e e2
  cases rx
  cases ry
  obtain ⟨h1, xs, h2, t⟩ := hd.keyed I sub hq
  rcases t.look hk with ⟨z, _, _⟩ | ⟨d', u', v', a', b', c', r1, r2⟩
  · rw [z] at hl; cases hl
  · rw [a'] at hl
    cases hl
    exact getItem_keyed (by show X.A.units + 1 + 8 < cLine; have := hr.un; omega) (keyable_is I hk hy') h2 b' ⟨v', H, I.tok _, r1, q _ r2⟩
/-- d.get(k), d.get(k, x) -/
theorem r_get_dict {k : Nat} (hr : Room k X.A) {x y : V} {us : List Value} {Q : VK} {d : D} {kvs : List (D × D)} (I : Inv X pins σ H s) (rx : Vals [x, y] us) (sub : Same F H)
    (hk : keyable d = true) (hx : RvW X.K X.w F H x (.dict kvs)) (hy : RvW X.K X.w F H y d) (q : ∀ z, Dp X.K F z ((dlook kvs d).getD .none) → Q z H) : wpAny (model X.prog X.w) X.A (call (.builtin "dict.get") us) (EP X pins σ Q) X.xe s := by
  obtain ⟨a, o, e, hq, hd⟩ := hx.dict sub rfl
  have nd : noDict d = true := by
    cases d <;> first | rfl | (simp [keyable, isTuple] at hk)
  have hy' := hy.dp sub nd
  obtain ⟨b, e2⟩ := keyable_ref hk hy'
  subst e e2
  obtain ⟨u1, u2, e3, r1, r2⟩ := Vals.two rx
  subst e3
  cases r1
  cases r2
  obtain ⟨h1, xs, h2, t⟩ := hd.keyed I sub hq
  refine get_keyed (by show X.A.units + 1 + 8 < cLine; have := hr.un; omega) (keyable_is I hk hy') h1 h2 ?_
  rcases t.look hk with ⟨z, b, _⟩ | ⟨d', u', v', a', b', c', r1, r2⟩
  · rw [b]
    rw [z] at q
    exact ⟨.non, H, I.tok _, rfl, q _ .non⟩
  · rw [b']
    rw [a'] at q
    exact ⟨v', H, I.tok _, r1, q _ r2⟩
theorem r_getOr_dict {k : Nat} (hr : Room k X.A) {x y g : V} {us : List Value} {Q : VK} {d df : D} {kvs : List (D × D)} (I : Inv X pins σ H s) (rx : Vals [x, y, g] us) (sub : Same F H)
    (hk : keyable d = true) (hx : RvW X.K X.w F H x (.dict kvs)) (hy : RvW X.K X.w F H y d) (q1 : ∀ r z, dlook kvs d = some r → Dp X.K F z r → Q z H) (q2 : dlook kvs d = none → Q g H) : wpAny (model X.prog X.w) X.A (call (.builtin "dict.get") us) (EP X pins σ Q) X.xe s := by
  obtain ⟨a, o, e, hq, hd⟩ := hx.dict sub rfl
  have nd : noDict d = true := by
    cases d <;> first | rfl | (simp [keyable, isTuple] at hk)
  have hy' := hy.dp sub nd
  obtain ⟨b, e2⟩ := keyable_ref hk hy'
  subst e e2
  cases rx with
  | cons r1 t1 =>
    obtain ⟨u2, u3, e3, r2, r3⟩ := Vals.two t1
    subst e3
    cases r1
    cases r2
    obtain ⟨h1, xs, h2, t⟩ := hd.keyed I sub hq
    refine getOr_keyed (by show X.A.units + 1 + 8 < cLine; have := hr.un; omega) (keyable_is I hk hy') h1 h2 ?_
    rcases t.look hk with ⟨z, b, _⟩ | ⟨d', u', v', a', b', c', r1, r2⟩
    · rw [b]
      exact ⟨g, H, I.tok _, r3, q2 z⟩
    · rw [b']
      exact ⟨v', H, I.tok _, r1, q1 _ _ a' r2⟩
/-- len(d) -/
theorem r_len_dict {x : V} {us : List Value} {Q : VK} {kvs : List (D × D)} (I : Inv X pins σ H s) (rx : Vals [x] us) (sub : Same F H) (hx : RvW X.K X.w F H x (.dict kvs)) (q : Q (.int kvs.length) H) :
    wpAny (model X.prog X.w) X.A (call (.builtin "len") us) (EP X pins σ Q) X.xe s := by
  obtain ⟨a, o, e, hq, hd⟩ := hx.dict sub rfl
  obtain ⟨u1, e3, r1⟩ := vals1 rx
  subst e e3
  cases r1
  have hl := hd.len
  obtain ⟨h1, xs, h2, t⟩ := hd.keyed I sub hq
  have el : (pairsH xs).length = kvs.length := by rw [pairsH_length, t.length]
  have hsz : kvs.length ≤ sizeLine := by rw [← SL_eq]; exact hl
  refine PyProof.Rows.call_len_slot (n := (pairsH xs).length) h2.typeIs PySem.F.slot_dict_len (fun Q' hq => len_keyed h1 h2 hq) (by omega) (by rw [sizeLine_eq] at hsz; omega) ?_
  exact ⟨.int kvs.length, H, I.tok _, ⟨_, by rw [el]⟩, q⟩
end
end Ky
end

section
set_option autoImplicit false
set_option linter.all false
set_option maxRecDepth 100000
set_option Elab.async false
/-! The primitives of one operand. -/
namespace Ky
open PySem PySem.Spec L2
open PyProof.Rows hiding St
section
variable {X : Cx} {pins : List (Addr × Obj)} {σ : L2.St} {H F : Hp} {s : Shared} {K : PySem.W.Frag} {w : World} {kk : Nat}
/-- a built-in's one argument -/
def one1 (r : V → Hp → VK → Prop) : List V → Hp → VK → Prop := fun vs H Q => ∃ x, vs = [x] ∧ r x H Q
theorem ints_of : ∀ {ds : List D} {is : List Int} {xs : List V}, intsOf ds = some is → DpAll K F xs ds → xs = is.map V.int
  | [], _, _, e, h => by cases e; cases h; rfl
  | d :: ds, is, _, e, h => by
    cases d <;> simp only [intsOf, reduceCtorEq, Option.map_eq_some_iff] at e
    obtain ⟨is', e1, e2⟩ := e
    subst e2
    cases h with
    | cons h1 h2 =>
      cases h1
      rw [ints_of e1 h2]
      rfl
theorem bools_of : ∀ {ds : List D} {bs : List Bool} {xs : List V}, boolsOf ds = some bs → DpAll K F xs ds → xs = bs.map V.bl
  | [], _, _, e, h => by cases e; cases h; rfl
  | d :: ds, is, _, e, h => by
    cases d <;> simp only [boolsOf, reduceCtorEq, Option.map_eq_some_iff] at e
    obtain ⟨is', e1, e2⟩ := e
    subst e2
    cases h with
    | cons h1 h2 =>
      cases h1
      rw [bools_of e1 h2]
      rfl
theorem r_len (hr : Room kk X.A) : CallR X (.builtin "len") (one1 (sem1 X.K X.w .len)) := fun pins s σ H xs us Q I rx ⟨x, ex, F, d, r, sub, hv, e, k⟩ => by
  subst ex
  cases d <;> simp only [f1, reduceCtorEq, Option.some.injEq] at e
  case str z =>
    split at e
    · rename_i hz
      cases e
      have ev := hv.str rfl
      subst ev
      exact call_len_str pins s σ H _ us Q I rx ⟨_, rfl, by rw [← SL_eq]; exact hz, k _ F H (.imm sub .int)⟩
    · cases e
  case list ds =>
    subst e
    obtain ⟨a, ys, ev, hs, ha⟩ := hv.list sub rfl
    subst ev
    exact call_len_seq pins s σ H _ us Q I rx ⟨a, ys, rfl, .inl hs, by rw [ha.length]; exact k _ F H (.imm sub .int)⟩
  case tuple ds =>
    subst e
    obtain ⟨a, ys, ev, hs, ha⟩ := hv.tup sub rfl
    subst ev
    exact call_len_seq pins s σ H _ us Q I rx ⟨a, ys, rfl, .inr hs, by rw [ha.length]; exact k _ F H (.imm sub .int)⟩
  case dict kvs =>
    subst e
    exact r_len_dict I rx sub hv (k _ F H (.imm sub .int))
theorem r_sum (hc : X.calm = true) : CallR X (.builtin "sum") (one1 (sem1 X.K X.w .sum)) := fun pins s σ H xs us Q I rx ⟨x, ex, F, d, r, sub, hv, e, k⟩ => by
  subst ex
  cases d <;> simp only [f1, reduceCtorEq, Option.map_eq_some_iff] at e
  obtain ⟨is, e1, e2⟩ := e
  subst e2
  obtain ⟨a, ys, ev, hs, ha⟩ := hv.list sub rfl
  subst ev
  exact cr_sum hc pins s σ H _ us Q I rx ⟨a, is, rfl, by rw [← ints_of e1 ha]; exact hs, k _ F H (.imm sub .int)⟩
theorem r_all (hc : X.calm = true) : CallR X (.builtin "all") (one1 (sem1 X.K X.w .all)) := fun pins s σ H xs us Q I rx ⟨x, ex, F, d, r, sub, hv, e, k⟩ => by
  subst ex
  cases d <;> simp only [f1, reduceCtorEq, Option.map_eq_some_iff] at e
  obtain ⟨is, e1, e2⟩ := e
  subst e2
  obtain ⟨a, ys, ev, hs, ha⟩ := hv.list sub rfl
  subst ev
  exact cr_all hc pins s σ H _ us Q I rx ⟨a, is, rfl, by rw [← bools_of e1 ha]; exact hs, k _ F H (.imm sub .bool)⟩
theorem r_any (hc : X.calm = true) : CallR X (.builtin "any") (one1 (sem1 X.K X.w .any)) := fun pins s σ H xs us Q I rx ⟨x, ex, F, d, r, sub, hv, e, k⟩ => by
  subst ex
  cases d <;> simp only [f1, reduceCtorEq, Option.map_eq_some_iff] at e
  obtain ⟨is, e1, e2⟩ := e
  subst e2
  obtain ⟨a, ys, ev, hs, ha⟩ := hv.list sub rfl
  subst ev
  exact cr_any hc pins s σ H _ us Q I rx ⟨a, is, rfl, by rw [← bools_of e1 ha]; exact hs, k _ F H (.imm sub .bool)⟩
theorem r_int : CallR X (.type "int") (one1 (sem1 X.K X.w .int)) := fun pins s σ H xs us Q I rx ⟨x, ex, F, d, r, sub, hv, e, k⟩ => by
  subst ex
  cases d <;> simp only [f1, reduceCtorEq, Option.some.injEq] at e
  case bool b =>
    subst e
    exact call_int1 pins s σ H _ us Q I rx (.inr ⟨b, by rw [hv.bool rfl], k _ F H (.imm sub .int)⟩)
  case int i =>
    subst e
    exact call_int1 pins s σ H _ us Q I rx (.inl ⟨i, by rw [hv.int rfl], k _ F H (.imm sub .int)⟩)
theorem r_str : CallR X (.type "str") (one1 (sem1 X.K X.w .str)) := fun pins s σ H xs us Q I rx ⟨x, ex, F, d, r, sub, hv, e, k⟩ => by
  subst ex
  cases d <;> simp only [f1, reduceCtorEq, Option.some.injEq] at e
  case str b =>
    subst e
    exact SkE.call_str_str pins s σ H _ us Q I rx ⟨b, by rw [hv.str rfl], k _ F H (.imm sub .str)⟩
theorem r_tup : CallR X (.type "tuple") (one1 (sem1 X.K X.w .tup)) := fun pins s σ H xs us Q I rx ⟨x, ex, F, d, r, sub, hv, e, k⟩ => by
  subst ex
  cases d <;> simp only [f1, reduceCtorEq, Option.some.injEq] at e
  case list ds =>
    subst e
    obtain ⟨a, ys, ev, hs, ha⟩ := hv.list sub rfl
    subst ev
    exact call_tuple_of pins s σ H _ us Q I rx ⟨a, ys, rfl, .inl ⟨hs, fun l hl => k _ _ _ (.tup sub hl ha)⟩⟩
  case tuple ds =>
    subst e
    obtain ⟨a, ys, ev, hs, ha⟩ := hv.tup sub rfl
    subst ev
    rcases hv with hv | ⟨_, _, _, _, hv⟩
    · exact call_tuple_of pins s σ H _ us Q I rx ⟨a, ys, rfl, .inr ⟨hs, k _ F H (.imm sub hv)⟩⟩
    · cases hv
theorem r_lst : CallR X (.type "list") (one1 (sem1 X.K X.w .lst)) := fun pins s σ H xs us Q I rx ⟨x, ex, F, d, r, sub, hv, e, k⟩ => by
  subst ex
  cases d <;> simp only [f1, reduceCtorEq, Option.some.injEq] at e
  case list ds =>
    subst e
    obtain ⟨a, ys, ev, hs, ha⟩ := hv.list sub rfl
    subst ev
    obtain ⟨_, _, _, hz⟩ := I.list hs
    exact call_list_of pins s σ H _ us Q I rx ⟨a, ys, rfl, .inl hs, fun l hl => k _ _ _ (.lst sub hl ha (by rw [SL_eq]; exact hz))⟩
  case tuple ds =>
    subst e
    obtain ⟨a, ys, ev, hs, ha⟩ := hv.tup sub rfl
    subst ev
    obtain ⟨_, _, _, hz⟩ := I.tuple hs
    exact call_list_of pins s σ H _ us Q I rx ⟨a, ys, rfl, .inr hs, fun l hl => k _ _ _ (.lst sub hl ha (by rw [SL_eq]; exact hz))⟩

/-! is -/
theorem non_of {v : V} {d : D} (hv : RvW K w F H v d) (sub : Same F H) : decide (v = .non) = isNoneD d := by
  cases d with
  | none =>
    have h := hv.dp sub rfl
    cases h
    rfl
  | bool b => rw [hv.bool rfl]; rfl
  | int b => rw [hv.int rfl]; rfl
  | str b => rw [hv.str rfl]; rfl
  | list ds =>
    obtain ⟨a, ys, ev, _⟩ := hv.list sub rfl
    subst ev
    rfl
  | tuple ds =>
    obtain ⟨a, ys, ev, _⟩ := hv.tup sub rfl
    subst ev
    rfl
  | dict kvs =>
    obtain ⟨a, o, ev, _⟩ := hv.dict sub rfl
    subst ev
    rfl
theorem bool_eq {v : V} {u : Value} {d : D} (hv : RvW K w F H v d) (sub : Same F H) (r : RelV v u) (b : Bool) : (u == Value.bool b) = isBoolD b d ∧ plainIs u (.bool b) = true := by
  cases d with
  | none =>
    have h := hv.dp sub rfl
    cases h
    cases r
    exact ⟨rfl, rfl⟩
  | bool c =>
    rw [hv.bool rfl] at r
    cases r
    cases c <;> cases b <;> exact ⟨rfl, rfl⟩
  | int c =>
    rw [hv.int rfl] at r
    obtain ⟨t, rfl⟩ := r
    exact ⟨rfl, rfl⟩
  | str c =>
    rw [hv.str rfl] at r
    obtain ⟨t, rfl⟩ := r
    exact ⟨rfl, rfl⟩
  | list ds =>
    obtain ⟨a, ys, ev, _⟩ := hv.list sub rfl
    subst ev
    cases r
    exact ⟨rfl, rfl⟩
  | tuple ds =>
    obtain ⟨a, ys, ev, _⟩ := hv.tup sub rfl
    subst ev
    cases r
    exact ⟨rfl, rfl⟩
  | dict kvs =>
    obtain ⟨a, o, ev, _⟩ := hv.dict sub rfl
    subst ev
    cases r
    exact ⟨rfl, rfl⟩

/-! isinstance -/
def Ty.name : Ty → String
  | .int => "int"
  | .bool => "bool"
  | .str => "str"
  | .tup => "tuple"
  | .lst => "list"
theorem r_isI (t : Ty) : CallR X (.builtin "isinstance") (fun vs H Q => ∃ x, vs = [x, .ty t.name] ∧ sem1 X.K X.w (.isI t) x H Q) := fun pins s σ H xs us Q I rx ⟨x, ex, F, d, r, sub, hv, e, k⟩ => by
  subst ex
  obtain ⟨u, u2, e3, r1, r2⟩ := Vals.two rx
  subst e3
  cases r2
  simp only [f1] at e
  split at e
  · rename_i nd
    cases e
    obtain ⟨as, rd⟩ := Dp.reads I d x u (hv.dp sub nd) r1
    have fin : ∀ tk, EP X pins σ Q (.bool (isKind t d)) { s with toks := tk } := fun tk => ⟨.bl _, H, I.tok _, rfl, k _ F H (.imm sub .bool)⟩
    cases t
    · refine PySem.W.isinstance_int_data rd fun tk _ => ?_
      have e2 : d.isInt = isKind .int d := by cases d <;> rfl
      rw [e2]; exact fin tk
    · refine PySem.W.isinstance_bool_data rd fun tk _ => ?_
      have e2 : d.isBool = isKind .bool d := by cases d <;> rfl
      rw [e2]; exact fin tk
    · refine PySem.W.isinstance_str_data rd fun tk _ => ?_
      have e2 : d.isStr = isKind .str d := by cases d <;> rfl
      rw [e2]; exact fin tk
    · refine PySem.W.isinstance_tuple_data rd fun tk _ => ?_
      have e2 : d.isTuple = isKind .tup d := by cases d <;> rfl
      rw [e2]; exact fin tk
    · refine PySem.W.isinstance_list_data rd fun tk _ => ?_
      have e2 : d.isList = isKind .lst d := by cases d <;> rfl
      rw [e2]; exact fin tk
  · cases e
end
end Ky
end

section
set_option autoImplicit false
set_option linter.all false
set_option maxRecDepth 100000
set_option Elab.async false
/-! is, reversed slices, sorted, min, max. -/
namespace Ky
open PySem PySem.Spec L2
open PyProof.Rows hiding St
section
variable {X : Cx} {pins : List (Addr × Obj)} {σ : L2.St} {H F : Hp} {s : Shared} {K : PySem.W.Frag} {w : World} {kk : Nat}
def on1 (r : V → Hp → VK → Prop) : List V → Hp → VK → Prop
  | [x], H, Q => r x H Q
  | _, _, _ => False
theorem CallR.on1 {f : Value} {r : V → Hp → VK → Prop} (h : CallR X f (one1 r)) : CallR X f (on1 r) := fun pins s σ H xs us Q I rx q => by
  match xs, q with
  | [x], q => exact h pins s σ H [x] us Q I rx ⟨x, rfl, q⟩
/-! is -/
def onNon (r : V → Hp → VK → Prop) : R2 := fun x y H Q => match y with
  | .non => r x H Q
  | _ => False
theorem r_isN : OpR X (compareOp .Is) (onNon (sem1 X.K X.w .isN)) := fun pins s σ H x y v u Q I rx ry q => by
  match y, ry, q with
  | .non, ry, ⟨F, d, r, sub, hv, e, k⟩ =>
    cases ry
    simp only [f1, Option.some.injEq] at e
    subst e
    have hn := non_of hv sub
    refine is_none_gen ?_
    have e2 : (v == Value.none) = isNoneD d := by
      rw [← hn]
      cases x <;> first | (cases rx; rfl) | (obtain ⟨t, rfl⟩ := rx; rfl)
    rw [e2]
    exact ⟨.bl _, H, I, rfl, k _ F H (.imm sub .bool)⟩
theorem r_notN : OpR X (compareOp .IsNot) (onNon (sem1 X.K X.w .notN)) := fun pins s σ H x y v u Q I rx ry q => by
  match y, ry, q with
  | .non, ry, ⟨F, d, r, sub, hv, e, k⟩ =>
    cases ry
    simp only [f1, Option.some.injEq] at e
    subst e
    have hn := non_of hv sub
    refine isnot_none_gen ?_
    have e2 : (v == Value.none) = isNoneD d := by
      rw [← hn]
      cases x <;> first | (cases rx; rfl) | (obtain ⟨t, rfl⟩ := rx; rfl)
    rw [e2]
    exact ⟨.bl _, H, I, rfl, k _ F H (.imm sub .bool)⟩
def onBl (r : Bool → V → Hp → VK → Prop) : R2 := fun x y H Q => match y with
  | .bl b => r b x H Q
  | _ => False
theorem r_isB : OpR X (compareOp .Is) (onBl fun b => sem1 X.K X.w (.isB b)) := fun pins s σ H x y v u Q I rx ry q => by
  match y, ry, q with
  | .bl b, ry, ⟨F, d, r, sub, hv, e, k⟩ =>
    cases ry
    simp only [f1, Option.some.injEq] at e
    subst e
    obtain ⟨h1, h2⟩ := bool_eq hv sub rx b
    refine wpAny_is_plain h2 ?_
    rw [h1]
    exact ⟨.bl _, H, I, rfl, k _ F H (.imm sub .bool)⟩
theorem r_notB : OpR X (compareOp .IsNot) (onBl fun b => sem1 X.K X.w (.notB b)) := fun pins s σ H x y v u Q I rx ry q => by
  match y, ry, q with
  | .bl b, ry, ⟨F, d, r, sub, hv, e, k⟩ =>
    cases ry
    simp only [f1, Option.some.injEq] at e
    subst e
    obtain ⟨h1, h2⟩ := bool_eq hv sub rx b
    refine wpAny_isNot_plain h2 ?_
    rw [h1]
    exact ⟨.bl _, H, I, rfl, k _ F H (.imm sub .bool)⟩
end
/-! x[::-1] -/
section
variable {prog : Program} {w : World} {A : Around} {E : Value → Shared → Prop} {s : Shared}
theorem fm_congr {α β : Type} {f g : α → Option β} : ∀ {l : List α}, (∀ x ∈ l, f x = g x) → l.filterMap f = l.filterMap g
  | [], _ => rfl
  | a :: l, h => by
    rw [List.filterMap_cons, List.filterMap_cons, h a (by simp), fm_congr fun x hx => h x (by simp [hx])]
theorem pick_rev (xs : Array Value) : ((List.range xs.size).filterMap fun (m : Nat) => xs[(((xs.size : Int) - 1) + (m : Int) * (-1)).toNat]?).toArray = xs.toList.reverse.toArray := by
  congr 1
  apply List.ext_getElem?
  intro i
  have e : (List.range xs.size).filterMap (fun (m : Nat) => xs[(((xs.size : Int) - 1) + (m : Int) * (-1)).toNat]?) = (List.range xs.size).map fun m => xs.toList.reverse.getD m .none := by
    rw [← List.filterMap_eq_map]
    refine fm_congr fun m hm => ?_
    have hm := List.mem_range.mp hm
    have h1 : (((xs.size : Int) - 1) + (m : Int) * (-1)).toNat = xs.size - 1 - m := by omega
    rw [h1]
    have h2 : m < xs.toList.reverse.length := by simp; exact hm
    show xs[xs.size - 1 - m]? = some (xs.toList.reverse.getD m .none)
    rw [List.getD_eq_getElem?_getD, List.getElem?_eq_getElem h2]
    simp only [Option.getD_some, List.getElem_reverse, Array.getElem_toList, Array.length_toList]
    exact Array.getElem?_eq_getElem (by omega)
  rw [e, List.getElem?_map]
  by_cases h : i < xs.size
  · rw [List.getElem?_range h]
    have h2 : i < xs.toList.reverse.length := by simp; exact h
    simp only [Option.map_some, List.getD_eq_getElem?_getD, List.getElem?_eq_getElem h2, Option.getD_some]
  · rw [List.getElem?_eq_none (by simp; omega), List.getElem?_eq_none (by simp; omega)]
    rfl
theorem sliceApplied_rev {sl : Addr} {vs : Value} {n : Nat} {Q' : Int × Int × Nat → Shared → Prop} (hs : s.heap.IsSliceOf sl .none .none vs) (ps : IsPart vs (some (-1))) (hq : Q' ((n : Int) - 1, -1, n) s) : wpAny (model prog w) A (Builtin.Slice.sliceApplied (.ref sl) (pure (n : Int))) Q' E s := by
  obtain ⟨os, hos, hcs, hds⟩ := id hs
  unfold Builtin.Slice.sliceApplied Builtin.Slice.sliceFields
  refine wpAny_bind (wpAny_bind (wpAny_field hos hds (x := .none) rfl (wpAny_bind (wpAny_field hos hds (x := .none) rfl (wpAny_bind (wpAny_field hos hds (x := vs) rfl (wpAny_pure ?_)))))))
  refine wpAny_bind (HT.slicePart_ ps ?_)
  show wpAny _ _ (if ((-1 : Int) == 0) = true then _ else _) _ _ s
  rw [if_neg (by decide)]
  refine wpAny_bind (HT.slicePart_ .none (wpAny_bind (HT.slicePart_ .none (wpAny_bind (wpAny_pure ?_)))))
  have e : (match Builtin.Slice.sliceAdjust none none (-1) (n : Int) with | (lo, hi) => (pure (lo, (-1 : Int), Builtin.Slice.slicePlaces lo hi (-1)) : Sem (Int × Int × Nat))) = pure ((n : Int) - 1, -1, n) := by
    have h1 : ¬ ((-1 : Int) > 0) := by decide
    by_cases hn : n = 0
    · rw [hn]; rfl
    · have h3 : Builtin.Slice.sliceAdjust none none (-1) (n : Int) = ((n : Int) - 1, -1) := rfl
      rw [h3]
      show pure ((n : Int) - 1, (-1 : Int), Builtin.Slice.slicePlaces ((n : Int) - 1) (-1) (-1)) = _
      have h2 : Builtin.Slice.slicePlaces ((n : Int) - 1) (-1) (-1) = n := by
        unfold Builtin.Slice.slicePlaces
        simp only [h1, if_false]
        rw [show (- -1 : Int) = 1 from by decide, Int.ediv_one]
        split <;> omega
      rw [h2]
  show wpAny _ _ (match Builtin.Slice.sliceAdjust none none (-1) (n : Int) with | (lo, hi) => (pure (lo, (-1 : Int), Builtin.Slice.slicePlaces lo hi (-1)) : Sem (Int × Int × Nat))) _ _ s
  rw [e]
  exact wpAny_pure hq
theorem getItem_tuple_rev {t sl : Addr} {items : Array Value} {vs : Value} {Q : Value → Shared → Prop} (ht : IsTup s.heap t items) (hs : s.heap.IsSliceOf sl .none .none vs) (ps : IsPart vs (some (-1)))
    (h : Q (.ref s.heap.objs.size) { s with heap := s.heap.push { cls := .type "tuple", data := .seq items.toList.reverse.toArray } }) (hsz : items.size ≤ sizeLine) : wpAny (model prog w) A (getItem (.ref t) (.ref sl)) Q E s := by
  have htake : sizeOk (.seq items.toList.reverse.toArray) := by
    show items.toList.reverse.toArray.size ≤ sizeLine
    simpa using hsz
  obtain ⟨os, hos, hcs, hds⟩ := id hs
  have hTs : s.TypeIs (.ref sl) "slice" := ⟨os, hos, hcs⟩
  unfold getItem
  try with_reducible refine wpAny_holding ?_
  first | refine wpAny_bind (wpAny_pure ?_) | skip
  refine wpAny_bind (wpAny_sequenceKey ht.typeIs (by decide) ?_)
  refine wpAny_bind (wpAny_callSpecial?_slot (name := Str.ofString "__getitem__") ht.typeIs PyProof.Rows.slot_tuple_getitem
    (wpAny_call_entry PyProof.Rows.slot_tuple_getitem ht.typeIs entry_tuple_getitem ?_ (args_tuple_getitem _ _)))
  show wpAny _ _ (Builtin.Tuple.tupleItemsOf (.ref t) >>= _) _ _ s
  refine wpAny_bind (tupleItemsOf_ ht ?_)
  refine wpAny_bind (wpAny_typeOf hTs ?_)
  rw [if_pos (by decide)]
  refine wpAny_bind (sliceApplied_rev hs ps ?_)
  have hno : ¬ ((((items.size : Int) - 1 == 0 && (-1 : Int) == 1 && items.size == items.size)) = true) := by
    intro q
    rw [Bool.and_eq_true, Bool.and_eq_true] at q
    exact absurd q.1.2 (by decide)
  show wpAny _ _ (if (((items.size : Int) - 1 == 0 && (-1 : Int) == 1 && items.size == items.size)) = true then _ else _) _ _ s
  rw [if_neg hno, pick_rev]
  first
    | exact wpAny_bind (m := Builtin.Tuple.tupleExact _) (wpAny_newObj_type (wpAny_pure ⟨_, rfl, wpAny_pure h⟩) htake)
    | exact wpAny_bind (m := Builtin.Tuple.tupleExact _) (wpAny_newObj_type (wpAny_bind (wpAny_pure (wpAny_pure ⟨_, rfl, wpAny_pure h⟩))) htake)
    | exact wpAny_bind (wpAny_bind (m := Builtin.Tuple.tupleExact _) (wpAny_newObj_type (wpAny_pure (wpAny_pure ⟨_, rfl, wpAny_pure h⟩)) htake))
    | exact wpAny_bind (wpAny_bind (m := Builtin.Tuple.tupleExact _) (wpAny_newObj_type (wpAny_pure ⟨_, rfl, wpAny_pure h⟩) htake))
end
section
variable {X : Cx} {e : Expr} {te : TE} {k : Nat} {p1 p2 p3 pos : Pos}
theorem p_rev (he : PE X e te) : PE X (.Subscript e (.Slice none none (some (.UnaryOp .USub (.Constant (.int 1) k p1) p2)) p3) pos) (fun σ H Q => te σ H fun x H1 => sem1 X.K X.w .rev x H1 Q) := by
  refine ⟨fun pins s σ H Q I h => ?_⟩
  refine Subscript_ (thn (he.run pins s σ H _ I h) fun v s1 ⟨x, H1, I1, r1, q1⟩ => ?_)
  obtain ⟨F, d, r, sub, hv, ef, q⟩ := q1
  have hst : PO X (some (.UnaryOp .USub (.Constant (.int 1) k p1) p2)) (tPart (tUn (rU fun i => .int (-i)) (tC (.int 1)))) := po_some (pe_un un_neg pe_int)
  refine wpAny_Slice (thn (po_none.run pins s1 σ H1 (fun o H2 => o = none ∧ H2 = H1) I1 ⟨rfl, rfl⟩) fun vl s2 ⟨l, H2, I2, pl, el, e2⟩ => ?_)
  subst el e2
  refine thn (po_none.run pins s2 σ H2 (fun o H3 => o = none ∧ H3 = H2) I2 ⟨rfl, rfl⟩) fun vu s3 ⟨u, H3, I3, pu, eu, e3⟩ => ?_
  subst eu e3
  refine thn (hst.run pins s3 σ H3 (fun o H4 => o = some (-1) ∧ H4 = H3) I3 ⟨1, rfl, -1, rfl, rfl, rfl⟩) fun vs s4 ⟨o, H4, I4, ps, eo, e4⟩ => ?_
  subst eo e4
  have I5 : Inv X pins σ H4 { s4 with heap := s4.heap.push { cls := .type "slice", data := .fields #[vl, vu, vs] } } := I4.kept (t' := s4.toks) fun b ob q => Heap.get?_push_of_some _ q
  cases d <;> simp only [f1, reduceCtorEq, Option.some.injEq] at ef
  case list ds =>
    subst ef
    obtain ⟨a, xs, ev, hx, ha⟩ := hv.list sub rfl
    subst ev
    cases r1
    obtain ⟨its, r, ht, hz⟩ := I5.list hx
    have hlen := r.length
    show wpAny (model X.prog X.w) X.A (subscriptTail e (.Slice none none (some (.UnaryOp .USub (.Constant (.int 1) k p1) p2)) p3) (.ref a) (.ref s4.heap.objs.size)) (EP X pins σ Q) X.xe { s4 with heap := s4.heap.push { cls := .type "slice", data := .fields #[vl, vu, vs] } }
    refine tail_any (ops := [.ref a, .ref s4.heap.objs.size]) ht.isList.typeIs (PySem.slot_list_getitem.lookup) ?_ (by with_unfolding_all rfl)
    refine wpAny_getItem_list_slice ht.isList (Heap.IsSliceOf.new _ vl vu vs) pl pu ps (by decide) ?_ (by rw [List.size_toArray]; omega)
    rw [PySem.W.krv_pick]
    have hz' : xs.reverse.length ≤ sizeLine := by rw [List.length_reverse]; exact hz
    exact ⟨.ref _, _, I5.laid (t' := s4.toks) (o := .lst xs.reverse) (fun b ob q => Heap.get?_push_of_some _ q) (Nat.le_refl _) ⟨hz', _, 0, r.reverse, Heap.get?_push_size _ rfl⟩, rfl, q _ _ _ (.lst sub (I5.hok.fresh (Nat.le_refl _)) ha.reverse (by rw [SL_eq]; exact hz'))⟩
  case tuple ds =>
    subst ef
    obtain ⟨a, xs, ev, hx, ha⟩ := hv.tup sub rfl
    subst ev
    cases r1
    cases pl
    cases pu
    obtain ⟨its, r, ht, hz⟩ := I5.tuple hx
    have hlen := r.length
    show wpAny (model X.prog X.w) X.A (subscriptTail e (.Slice none none (some (.UnaryOp .USub (.Constant (.int 1) k p1) p2)) p3) (.ref a) (.ref s4.heap.objs.size)) (EP X pins σ Q) X.xe { s4 with heap := s4.heap.push { cls := .type "slice", data := .fields #[.none, .none, vs] } }
    refine tail_any (ops := [.ref a, .ref s4.heap.objs.size]) ht.typeIs (PyProof.Rows.slot_tuple_getitem.lookup) ?_ (by with_unfolding_all rfl)
    refine getItem_tuple_rev ht (Heap.IsSliceOf.new _ .none .none vs) ps ?_ (by rw [List.size_toArray]; omega)
    have hz' : xs.reverse.length ≤ sizeLine := by rw [List.length_reverse]; exact hz
    exact ⟨.ref _, _, I5.laid (t' := s4.toks) (o := .tup xs.reverse) (fun b ob q => Heap.get?_push_of_some _ q) (Nat.le_refl _) ⟨hz', _, r.reverse, ⟨_, Heap.get?_push_size _ rfl, rfl, _, rfl⟩⟩, rfl, q _ _ _ (.tupT sub (I5.hok.fresh (Nat.le_refl _)) ha.reverse)⟩
end
end Ky
end

section
set_option autoImplicit false
set_option linter.all false
set_option maxRecDepth 100000
set_option Elab.async false
/-! sorted, min, max. -/
namespace Ky
open PySem PySem.Spec L2
open PyProof.Rows hiding St
section
variable {X : Cx} {pins : List (Addr × Obj)} {σ : L2.St} {H F : Hp} {s : Shared} {K : PySem.W.Frag} {w : World} {kk : Nat}
/-- what is collected off v -/
def ColAt (X : Cx) (s : Shared) (v : Value) (its : List Value) : Prop := ∀ (A : Around) (E : Value → Shared → Prop) (R : List Value → Shared → Prop), A.handled = none →
  (∀ h' tk, (∀ b o, s.heap.get? b = some o → h'.get? b = some o) → R its { s with heap := h', toks := tk }) → wpAny (model X.prog X.w) A (collect v) R E s
theorem Ent.keys : ∀ {xs : List (NestedKey × Addr × Value)} {kvs : List (D × D)}, Ent K F xs kvs → DpAll K F (xs.map fun x => V.ref x.2.1) (kvs.map (·.1))
  | _, _, .nil => .nil
  | _, _, .cons h1 h2 h3 h4 t => .cons h2 (Ent.keys t)
theorem Ent.valsD : ∀ {xs : List (NestedKey × Addr × Value)} {kvs : List (D × D)}, Ent K F xs kvs → ∃ vs, Vals vs (xs.map fun x => x.2.2) ∧ DpAll K F vs (kvs.map (·.2))
  | _, _, .nil => ⟨[], .nil, .nil⟩
  | _, _, .cons h1 h2 h3 h4 t => let ⟨vs, a, b⟩ := Ent.valsD t; ⟨_ :: vs, .cons h3 a, .cons h4 b⟩
theorem refs_vals {α : Type} (f : α → Addr) : ∀ bs : List α, Vals (bs.map fun x => V.ref (f x)) (bs.map fun x => Value.ref (f x))
  | [] => .nil
  | _ :: r => .cons rfl (refs_vals f r)
theorem Vals.at' : ∀ {vs : List V} {us : List Value} {i : Nat} {u : Value}, Vals vs us → us[i]? = some u → ∃ v, vs[i]? = some v ∧ RelV v u
  | _, _, _, _, .nil, e => by simp at e
  | _, _, 0, _, .cons h t, e => by simp at e; subst e; exact ⟨_, rfl, h⟩
  | _, _, i + 1, _, .cons h t, e => by
    obtain ⟨v, a, b⟩ := Vals.at' (i := i) t (by simpa using e)
    exact ⟨v, by simpa using a, b⟩
theorem col_of (I : Inv X pins σ H s) (sub : Same F H) {x : V} {u : Value} {d : D} {ds : List D} (rx : RelV x u) (hv : RvW X.K X.w F H x d) (e : seqOf d = some ds) :
    ∃ xs its, Vals xs its ∧ DpAll X.K F xs ds ∧ its.length ≤ sizeLine ∧ ColAt X s u its := by
  cases d <;> simp only [seqOf, reduceCtorEq, Option.some.injEq] at e
  case list ys =>
    subst e
    obtain ⟨a, xs, ev, hs, ha⟩ := hv.list sub rfl
    subst ev
    cases rx
    obtain ⟨its, rv, p, hz⟩ := I.list hs
    refine ⟨xs, its, rv, ha, by rw [← rv.length]; exact hz, fun A E R _ hR => ?_⟩
    obtain ⟨o, ho, hc, n, hd⟩ := p.isList
    exact wpAny_collect_seq a (.inl rfl) ho hc hd (fun h' k => by simpa using hR h' s.toks k) (by rw [List.size_toArray, ← rv.length]; exact hz)
  case tuple ys =>
    subst e
    obtain ⟨a, xs, ev, hs, ha⟩ := hv.tup sub rfl
    subst ev
    cases rx
    obtain ⟨its, rv, ⟨o, ho, hc, n, hd⟩, hz⟩ := I.tuple hs
    refine ⟨xs, its, rv, ha, by rw [← rv.length]; exact hz, fun A E R _ hR => ?_⟩
    exact wpAny_collect_seq a (.inr rfl) ho hc hd (fun h' k => by simpa using hR h' s.toks k) (by rw [List.size_toArray, ← rv.length]; exact hz)
  case dict kvs =>
    subst e
    obtain ⟨a, o, ev, hq, hd⟩ := hv.dict sub rfl
    subst ev
    cases rx
    obtain ⟨p, _, _⟩ := I.hok a _ hq
    obtain ⟨es, ep, xs, hdat, he, hn, t⟩ := hd.es
    have hl : es.size = xs.length := by
      have := congrArg List.length he
      simpa using this
    have hz : xs.length ≤ sizeLine := by rw [t.length, ← SL_eq]; exact hd.len
    refine ⟨_, _, refs_vals (fun x : NestedKey × Addr × Value => x.2.1) xs, t.keys, by simpa using hz, fun A E R hh hR => ?_⟩
    refine PySem.W.kdu_collect (KdlSrc.rawDict (es := es) (ep := ep) p.2) hh ⟨o, p.1, hd.ex, hdat⟩ (by rw [hl]; exact hz) fun h' tk acc k it => ?_
    have ea : acc.toList = xs.map fun x => Value.ref x.2.1 := by
      apply List.ext_getElem?
      intro j
      rw [List.getElem?_map]
      cases hj : acc.toList[j]? with
      | none =>
        have h1 := List.getElem?_eq_none_iff.mp hj
        rw [Array.length_toList, it.1, hl] at h1
        rw [List.getElem?_eq_none h1]
        rfl
      | some v =>
        obtain ⟨hi, hv'⟩ := it.2 j v (by rw [← Array.getElem?_toList]; exact hj)
        have hj' : j < xs.length := by rw [← hl]; exact hi
        have e1 : es.toList[j]? = some es[j] := by rw [Array.getElem?_toList]; exact Array.getElem?_eq_getElem hi
        rw [he, List.getElem?_map, List.getElem?_eq_getElem hj'] at e1
        rw [List.getElem?_eq_getElem hj', hv']
        simp only [Option.map_some, Option.some.injEq] at e1 ⊢
        rw [← e1]
    rw [ea]
    exact hR h' tk k

/-! sorted -/
theorem allAlike_of : ∀ {ds : List D}, allAlike ds = true → PySem.W.AllAlike ds
  | [], _ => fun d hd => by simp at hd
  | x :: r, h => by
    simp only [allAlike, Bool.and_eq_true, List.all_eq_true] at h
    intro d hd d' hd'
    rcases List.mem_cons.mp hd with e | hd2
    · subst e
      rcases List.mem_cons.mp hd' with e | hd'
      · subst e; exact h.1.1.1
      · exact h.1.1.2 _ hd'
    · rcases List.mem_cons.mp hd' with e | hd'
      · subst e; exact h.1.2 _ hd2
      · exact allAlike_of h.2 d hd2 d' hd'
theorem sortable_of {ds : List D} (h : (ds.all isTup1 || ds.all notTN) = true) : PySem.W.Sortable ds := by
  simp only [Bool.or_eq_true, List.all_eq_true] at h
  rcases h with h | h
  · refine .inl fun d hd => ?_
    have := h d hd
    cases d <;> simp only [isTup1, Bool.false_eq_true] at this
    rename_i xs
    cases xs with
    | nil => simp [isTup1] at this
    | cons x r => exact ⟨x, r, rfl⟩
  · refine .inr fun d hd => ?_
    have := h d hd
    cases d <;> simp_all [notTN]
def Both (K : PySem.W.Frag) (F : Hp) (u : Value) (p : V × D) : Prop := RelV p.1 u ∧ Dp K F p.1 p.2
theorem each_both : ∀ {xs : List V} {us : List Value} {ds : List D}, Vals xs us → DpAll K F xs ds → PySem.W.EachIs (Both K F) us (xs.zip ds)
  | _, _, _, .nil, .nil => .nil
  | _, _, _, .cons a t, .cons b r => .cons ⟨a, b⟩ (each_both t r)
theorem both_split : ∀ {us : List Value} {ps : List (V × D)}, PySem.W.EachIs (Both K F) us ps → Vals (ps.map (·.1)) us ∧ DpAll K F (ps.map (·.1)) (ps.map (·.2))
  | _, _, .nil => ⟨.nil, .nil⟩
  | _, _, .cons a t => ⟨.cons a.1 (both_split t).1, .cons a.2 (both_split t).2⟩
theorem zip_snd : ∀ {xs : List V} {ds : List D}, DpAll K F xs ds → (xs.zip ds).map (·.2) = ds
  | _, _, .nil => rfl
  | _, _, .cons a t => by rw [List.zip_cons_cons, List.map_cons, zip_snd t]
theorem r_sorted (hr : Room kk X.A) (hc : X.calm = true) : CallR X (.builtin "sorted") (one1 (sem1 X.K X.w .sorted)) := fun pins s σ H xs us Q I rx ⟨x, ex, F, d, r, sub, hv, e, k⟩ => by
  subst ex
  obtain ⟨u, eu, r1⟩ := vals1 rx
  subst eu
  have hh := I.ok.hd hc
  obtain ⟨ds, e1, e2⟩ := Option.bind_eq_some_iff.mp (show (seqOf d).bind (fun xs => if sortable xs then some (PyData.list (sortD xs)) else none) = some r from e)
  split at e2
  · rename_i hs
    cases e2
    simp only [sortable, Bool.and_eq_true, decide_eq_true_eq] at hs
    obtain ⟨⟨⟨hal, hso⟩, hdep⟩, hlen⟩ := hs
    obtain ⟨xs, its, rv, ha, hz, hcol⟩ := col_of I sub r1 hv e1
    have lx := rv.length
    have ld := ha.length
    refine Calls.call_function_entry PyProof.Rows.kind_sorted PyProof.Rows.plain_sorted PyProof.Rows.entry_sorted (PyProof.Rows.args_sorted1 _) ?_
    unfold Builtin.«sorted»
    refine wpAny_bind (m := checkCount "sorted" 1 1 _) (wpAny_pure ?_)
    refine wpAny_bind (hcol X.A.in1 _ _ hh fun h' tk kp => ?_)
    refine wpAny_bind (wpAny_newList ?_ hz)
    have hu8 := hr.un
    have ebt := each_both (F := F) rv ha
    have ez : (xs.zip ds).map (·.2) = ds := zip_snd ha
    have hat : (h'.push { cls := .type "list", data := .seq its.toArray }).get? h'.objs.size = some (seqObj "list" its.toArray 0) := Heap.get?_push_size _ rfl
    have er : PySem.W.EachIs (fun v b => ∃ as, Reads (h'.push { cls := .type "list", data := .seq its.toArray }) v (Prod.snd b) as ∧ h'.objs.size ∉ as) its (xs.zip ds) := ebt.mono fun v b hb => by
      obtain ⟨as, ra⟩ := Dp.reads I b.2 b.1 v (hb.2.mono sub) hb.1
      have ra' : Reads h' v b.2 as := Reads.keeps kp ra
      refine ⟨as, Reads.keeps (fun b o q => Heap.get?_push_of_some _ q) ra', fun hm => ?_⟩
      obtain ⟨o, ho⟩ := PyProof.On.reads_mem_get ra' _ hm
      exact Nat.lt_irrefl _ (Heap.lt_size ho)
    refine wpAny_bind (wpAny_holding ?_)
    refine PySem.W.list_sort_data (enc := Prod.snd) (R := Both X.K F) (A := X.A.in1) (s := { s with heap := h'.push { cls := .type "list", data := .seq its.toArray }, toks := tk }) hat ebt er (by rw [ez]; exact allAlike_of hal) (by rw [ez]; exact sortable_of hso) (by rw [← ebt.length]; exact hz) (fun b hb => ?_) fun out lo eo => ?_
    · have hb2 : b.2 ∈ ds := by rw [← ez]; exact List.mem_map.mpr ⟨b, hb, rfl⟩
      have := List.all_eq_true.mp hdep _ hb2
      simp only [dok, decide_eq_true_eq] at this
      show X.A.units + 1 + 1 + _ < _
      omega
    · refine wpAny_pure ⟨_, rfl, ?_⟩
      obtain ⟨v1, v2⟩ := both_split eo
      have es : ((xs.zip ds).mergeSort (PySem.W.dataLe false Prod.snd)).map Prod.snd = sortD ds := by
        have z := List.map_mergeSort (r := PySem.W.dataLe false Prod.snd) (s := PySem.W.dataLe false id) (f := Prod.snd) (l := xs.zip ds) (fun a _ b _ => rfl)
        rw [z, ez]
        rfl
      rw [es] at v2
      obtain ⟨c, hc2⟩ := PyProof.Rows.sortedHeap_at (out := out.toArray) hat
      have old : ∀ b o, s.heap.get? b = some o → (PyProof.Rows.sortedHeap (h'.push { cls := .type "list", data := .seq its.toArray }) h'.objs.size its out.toArray).get? b = some o := fun b o q => by
        have q1 := kp b o q
        have hlt := Heap.lt_size q1
        rw [PyProof.Rows.sortedHeap_old (Nat.ne_of_lt hlt) (by rw [Heap.size_push]; exact Nat.lt_succ_of_lt hlt)]
        exact Heap.get?_push_of_some _ q1
      have hge : s.heap.get? h'.objs.size = none := by
        cases q : s.heap.get? h'.objs.size with
        | none => rfl
        | some o => exact absurd (Heap.lt_size (kp _ _ q)) (Nat.lt_irrefl _)
      have hfr : H h'.objs.size = none := (I.hok.kept kp).fresh (Nat.le_refl _)
      have hz2 : (((xs.zip ds).mergeSort (PySem.W.dataLe false Prod.snd)).map Prod.fst).length ≤ sizeLine := by
        rw [v1.length, lo, ← ebt.length]; exact hz
      exact ⟨.ref h'.objs.size, _, I.laidN (t' := tk) (o := .lst _) old hge hfr ⟨hz2, out, c, v1, hc2⟩, rfl, k _ _ _ (.lst sub hfr v2 (by rw [SL_eq]; exact hz2))⟩
  · cases e2
end
end Ky
end

section
set_option autoImplicit false
set_option linter.all false
set_option maxRecDepth 100000
set_option Elab.async false
/-! min, max. -/
namespace Ky
open PySem PySem.Spec L2
open PyProof.Rows hiding St
section
variable {X : Cx} {pins : List (Addr × Obj)} {σ : L2.St} {H F : Hp} {s : Shared} {K : PySem.W.Frag} {w : World} {kk : Nat}
theorem alikeAll_of {ds : List D} (h : allAlike ds = true) (hn : ds.all notNone = true) : PySem.W.AlikeAll ds :=
  ⟨fun x hx y hy => allAlike_of h x hx y hy, fun x hx e => by
    have := List.all_eq_true.mp hn x hx
    subst e
    simp [notNone] at this⟩
theorem best_mem (f : D → D → Bool) : ∀ (xs : List D) (x : D), xs.foldl (fun a y => if f a y then y else a) x ∈ x :: xs
  | [], x => by simp
  | y :: r, x => by
    rw [List.foldl_cons]
    have := best_mem f r (if f x y = true then y else x)
    rcases List.mem_cons.mp this with e | h
    · rw [e]
      split <;> simp
    · simp [h]
theorem minD_mem (x : D) (xs : List D) : PySem.W.minD x xs ∈ x :: xs := best_mem (fun a y => PySem.W.dataLt y a) xs x
theorem maxD_mem (x : D) (xs : List D) : PySem.W.maxD x xs ∈ x :: xs := best_mem (fun a y => PySem.W.dataLt a y) xs x
theorem depthAll_le {ds : List D} {n : Nat} (h : ∀ d ∈ ds, d.depth ≤ n) : PyData.depthAll ds ≤ n := by
  induction ds with
  | nil => simp [PyData.depthAll]
  | cons d r ih =>
    simp only [PyData.depthAll]
    have h1 := h d (by simp)
    have h2 := ih fun d hd => h d (by simp [hd])
    omega
theorem dok_depth {ds : List D} (h : ds.all dok = true) : PyData.depthAll ds ≤ 64 := depthAll_le fun d hd => by
  have := List.all_eq_true.mp h d hd
  simpa [dok] using this
/-- the item that came out, as data -/
theorem best_dp (I : Inv X pins σ H s) (sub : Same F H) {xs : List V} {its : List Value} {ds : List D} {i : Nat} {v : Value} {m : D} {as : List Addr} {h' : Heap} (rv : Vals xs its) (ha : DpAll X.K F xs ds) (hi : its.toArray[i]? = some v)
    (k : ∀ b o, s.heap.get? b = some o → h'.get? b = some o) (r : Reads h' v m as) (al : PySem.W.AlikeAll ds) (hm : m ∈ ds) : ∃ z, RelV z v ∧ Dp X.K F z m := by
  obtain ⟨z, hz, rz⟩ := Vals.at' rv (by simpa using hi)
  obtain ⟨d, hd, hp⟩ := ha.getV hz
  obtain ⟨as2, r2⟩ := Dp.reads I d z v (hp.mono sub) rz
  have r3 : Reads h' v d as2 := Reads.keeps k r2
  have e := PySem.W.alike_unique m d v as as2 (al.1 m hm d (List.mem_of_getElem? hd)) r r3
  subst e
  exact ⟨z, rz, hp⟩
theorem least_some {ds : List D} {r : D} (h : least ds = some r) : ∃ x xs, ds = x :: xs ∧ allAlike ds = true ∧ ds.all notNone = true ∧ ds.all dok = true ∧ r = PySem.W.minD x xs := by
  cases ds with
  | nil => cases h
  | cons x xs =>
    simp only [least] at h
    split at h
    · rename_i hc
      simp only [Bool.and_eq_true] at hc
      cases h
      exact ⟨x, xs, rfl, hc.1.1, hc.1.2, hc.2, rfl⟩
    · cases h
theorem greatest_some {ds : List D} {r : D} (h : greatest ds = some r) : ∃ x xs, ds = x :: xs ∧ allAlike ds = true ∧ ds.all notNone = true ∧ ds.all dok = true ∧ r = PySem.W.maxD x xs := by
  cases ds with
  | nil => cases h
  | cons x xs =>
    simp only [greatest] at h
    split at h
    · rename_i hc
      simp only [Bool.and_eq_true] at hc
      cases h
      exact ⟨x, xs, rfl, hc.1.1, hc.1.2, hc.2, rfl⟩
    · cases h
theorem r_mn (hr : Room kk X.A) (hc : X.calm = true) : CallR X (.builtin "min") (one1 (sem1 X.K X.w .mn)) := fun pins s σ H xs us Q I rx ⟨x, ex, F, d, r, sub, hv, e, k⟩ => by
  subst ex
  obtain ⟨u, eu, r1⟩ := vals1 rx
  subst eu
  have hh := I.ok.hd hc
  have hu8 := hr.un
  cases d <;> simp only [f1, reduceCtorEq] at e
  case list ds =>
    obtain ⟨x1, r1', ed, hal, hno, hdk, er⟩ := least_some e
    obtain ⟨a, ys, ev, hs, ha⟩ := hv.list sub rfl
    subst ev
    cases r1
    obtain ⟨its, rv, p, hz⟩ := I.list hs
    obtain ⟨as, rd⟩ := Dp.readsAll I ds ys its (ha.mono sub) rv
    subst ed
    refine PySem.W.min_list_data hh p.isList (by simpa using rd) (alikeAll_of hal hno) (by have := dok_depth hdk; omega) fun i v h' tk bs hi r hk => ?_
    obtain ⟨z, rz, hp⟩ := best_dp I sub rv ha hi hk r (alikeAll_of hal hno) (minD_mem _ _)
    subst er
    exact ⟨z, H, I.kept (t' := tk) hk, rz, k z F H (.imm sub (.dat hp))⟩
  case tuple ds =>
    obtain ⟨x1, r1', ed, hal, hno, hdk, er⟩ := least_some e
    obtain ⟨a, ys, ev, hs, ha⟩ := hv.tup sub rfl
    subst ev
    cases r1
    obtain ⟨its, rv, p, hz⟩ := I.tuple hs
    obtain ⟨as, rd⟩ := Dp.readsAll I ds ys its (ha.mono sub) rv
    subst ed
    refine PySem.W.min_tuple_data hh p (by simpa using rd) (alikeAll_of hal hno) (by have := dok_depth hdk; omega) fun i v h' tk bs hi r hk => ?_
    obtain ⟨z, rz, hp⟩ := best_dp I sub rv ha hi hk r (alikeAll_of hal hno) (minD_mem _ _)
    subst er
    exact ⟨z, H, I.kept (t' := tk) hk, rz, k z F H (.imm sub (.dat hp))⟩
theorem r_mx (hr : Room kk X.A) (hc : X.calm = true) : CallR X (.builtin "max") (one1 (sem1 X.K X.w .mx)) := fun pins s σ H xs us Q I rx ⟨x, ex, F, d, r, sub, hv, e, k⟩ => by
  subst ex
  obtain ⟨u, eu, r1⟩ := vals1 rx
  subst eu
  have hh := I.ok.hd hc
  have hu8 := hr.un
  cases d <;> simp only [f1, reduceCtorEq] at e
  case list ds =>
    obtain ⟨x1, r1', ed, hal, hno, hdk, er⟩ := greatest_some e
    obtain ⟨a, ys, ev, hs, ha⟩ := hv.list sub rfl
    subst ev
    cases r1
    obtain ⟨its, rv, p, hz⟩ := I.list hs
    obtain ⟨as, rd⟩ := Dp.readsAll I ds ys its (ha.mono sub) rv
    subst ed
    refine PySem.W.max_list_data hh p.isList (by simpa using rd) (alikeAll_of hal hno) (by have := dok_depth hdk; omega) fun i v h' tk bs hi r hk => ?_
    obtain ⟨z, rz, hp⟩ := best_dp I sub rv ha hi hk r (alikeAll_of hal hno) (maxD_mem _ _)
    subst er
    exact ⟨z, H, I.kept (t' := tk) hk, rz, k z F H (.imm sub (.dat hp))⟩
  case tuple ds =>
    obtain ⟨x1, r1', ed, hal, hno, hdk, er⟩ := greatest_some e
    obtain ⟨a, ys, ev, hs, ha⟩ := hv.tup sub rfl
    subst ev
    cases r1
    obtain ⟨its, rv, p, hz⟩ := I.tuple hs
    obtain ⟨as, rd⟩ := Dp.readsAll I ds ys its (ha.mono sub) rv
    subst ed
    refine PySem.W.max_tuple_data hh p (by simpa using rd) (alikeAll_of hal hno) (by have := dok_depth hdk; omega) fun i v h' tk bs hi r hk => ?_
    obtain ⟨z, rz, hp⟩ := best_dp I sub rv ha hi hk r (alikeAll_of hal hno) (maxD_mem _ _)
    subst er
    exact ⟨z, H, I.kept (t' := tk) hk, rz, k z F H (.imm sub (.dat hp))⟩
end
end Ky
end

section
set_option autoImplicit false
set_option linter.all false
set_option maxRecDepth 100000
set_option Elab.async false
/-! max(d.values()), list(d.values()). -/
namespace Ky
open PySem PySem.Spec L2
open PyProof.Rows hiding St
section
variable {X : Cx} {pins : List (Addr × Obj)} {σ : L2.St} {H F : Hp} {s : Shared} {K : PySem.W.Frag} {w : World} {kk : Nat}
def viewO (a : Addr) : Obj := { cls := .type "dict_values", data := .fields #[.ref a] }
/-- d.values() -/
def rVals (K : PySem.W.Frag) (w : World) : V → List V → Hp → VK → Prop := fun x vs H Q => ∃ F a o kvs, vs = [] ∧ x = .ref a ∧ Same F H ∧ H a = some (RawO a o) ∧ DicR K w F o kvs ∧ ∀ p, H p = none → Q (.ref p) (upd H p (RawO p (viewO a)))
theorem mt_values : MtR X "dict.values" (rVals X.K X.w) := fun pins s σ H x xs v us Q I rx rs ⟨F, a, o, kvs, e1, e2, sub, hq, hd, k⟩ => by
  subst e1 e2
  cases rx
  cases rs
  obtain ⟨p, _, _⟩ := I.hok a _ hq
  obtain ⟨es, ep, xs, hdat, he, hn, t⟩ := hd.es
  have hm : s.heap.DictRaw a es ep := ⟨o, p.1, hd.ex, hdat⟩
  have hns : (s.heap.objs.size == sysModules) = false := beq_eq_false_iff_ne.mpr (Nat.ne_of_gt I.big)
  refine call_meetsIn PySem.F.slot_dict_values hm.typeIs PySem.F.entry_dict_values (PySem.F.args_dict_values_1 _) (meets_dict_values_raw a p.2) ⟨⟨es, ep, hm⟩, ?_⟩
  exact ⟨.ref _, _, I.laid (t' := s.toks) (o := RawO s.heap.objs.size (viewO a)) (fun b ob q => Heap.get?_push_of_some _ q) (Nat.le_refl _) (rawO_ok (Heap.get?_push_size _ rfl) hns), rfl, k _ (I.hok.fresh (Nat.le_refl _))⟩
theorem vals_of_es {es : Array DictEntry} {xs : List (NestedKey × Addr × Value)} {i : Nat} (he : es.toList = xs.map (fun x => (⟨NestedKey.hash w x.1, .ref x.2.1, x.2.2⟩ : DictEntry))) (hi : i < es.size) : (xs.map fun x => x.2.2)[i]? = some es[i].val := by
  have e1 : es.toList[i]? = some es[i] := by rw [Array.getElem?_toList]; exact Array.getElem?_eq_getElem hi
  have hl : es.size = xs.length := by
    have := congrArg List.length he
    simpa using this
  have hj' : i < xs.length := by rw [← hl]; exact hi
  rw [he, List.getElem?_map, List.getElem?_eq_getElem hj'] at e1
  rw [List.getElem?_map, List.getElem?_eq_getElem hj']
  simp only [Option.map_some, Option.some.injEq] at e1 ⊢
  rw [← e1]
/-- max(view) -/
theorem max_view {prog : Program} {A : Around} {E : Value → Shared → Prop} {v d : Addr} {es : Array DictEntry} {ep : Nat} {vs : List Value} {x : D} {xs : List D} {as : List Addr} {Q : Value → Shared → Prop} (hh : A.handled = none)
    (hv : s.heap.IsValuesView v d) (hm : s.heap.DictRaw d es ep) (hl : vs.length = es.size) (hvs : ∀ (i : Nat) (hi : i < es.size), vs[i]? = some es[i].val) (hr : ReadsAll s.heap vs (x :: xs) as) (ha : PySem.W.AlikeAll (x :: xs)) (hu : A.units + 1 + PyData.depthAll (x :: xs) < cLine)
    (h : ∀ (i : Nat) v h' tk bs, vs.toArray[i]? = some v → Reads h' v (PySem.W.maxD x xs) bs → (∀ b o, s.heap.get? b = some o → h'.get? b = some o) → Q v { s with heap := h', toks := tk }) :
    wpAny (model prog w) A (call (.builtin "max") [.ref v]) Q E s := by
  have hr : ReadsAll s.heap vs.toArray.toList (x :: xs) as := by simpa using hr
  have hn : vs.toArray.size = xs.length + 1 := PySem.W.readsAll_len hr
  have hsz : es.size = xs.length + 1 := by rw [← hl]; simpa using hn
  have hlt := hm.lt_size
  refine PySem.call_max_walkH (wpAny_pyIter_values_raw hv hm ?_)
  refine ⟨_, _, _, _, _, _, _, s.heap, fun i j => PySem.W.dataLt ((x :: xs).getD j .none) ((x :: xs).getD i .none), rfl, (Walks.rawValues (A := A.in1) hh s.heap.objs.size d (Nat.ne_of_lt hlt) es ep).toS, ⟨⟨_, Heap.get?_push_size _ rfl, rfl, rfl⟩, hm.push _⟩, fun b hb => ?_, by rw [hsz]; exact Nat.succ_pos _, fun b o e hb => ?_, fun b o e => Heap.get?_push_of_some _ e, fun i j vi vj s' Q E hk hi hj hq => ?_, fun v s' hP m => ?_⟩
  · show b < (s.heap.push _).objs.size
    rw [Heap.size_push]
    rcases List.mem_cons.mp hb with rfl | hb
    · exact Nat.lt_succ_self _
    · rcases List.mem_cons.mp hb with rfl | hb
      · exact Nat.lt_succ_of_lt hlt
      · cases hb
  · exact absurd (Heap.lt_size e) ((List.mem_singleton.mp hb) ▸ Nat.lt_irrefl _)
  · obtain ⟨hi, ei⟩ := hi
    obtain ⟨hj, ej⟩ := hj
    exact PySem.W.cmpIn_gt (A := A.in1) hr ha (by show A.units + 1 + _ < _; exact hu) i j vi vj s' Q E hk (by rw [ei]; simpa using hvs i hi) (by rw [ej]; simpa using hvs j hj) hq
  · obtain ⟨h', tk, rfl, hk'⟩ := PySem.W.moved_old (s := s) rfl rfl m
    obtain ⟨hi, ei⟩ := hP
    have hP' : vs.toArray[argBest (fun i j => PySem.W.dataLt ((x :: xs).getD j .none) ((x :: xs).getD i .none)) (es.size - 1)]? = some v := by rw [ei]; simpa using hvs _ hi
    obtain ⟨bs, r, _, _, _⟩ := PySem.W.readsAll_atA hr _ v hP'
    have e1 : es.size - 1 = xs.length := by omega
    have e2 := (PySem.W.argBest_fold (fun a b => PySem.W.dataLt b a) PyData.none x xs xs.length (Nat.le_refl _)).2
    rw [List.take_length] at e2
    rw [e1] at r
    exact h _ v h' tk bs hP' (PySem.W.reads_keeps hk' (by unfold PySem.W.maxD; rw [← e2]; exact r)) hk'
/-- what a view is good for -/
def onView (K : PySem.W.Frag) (w : World) (r : V → Hp → VK → Prop) : V → Hp → VK → Prop := fun x H Q => ∃ F a p o kvs, x = .ref p ∧ Same F H ∧ H p = some (RawO p (viewO a)) ∧ H a = some (RawO a o) ∧ DicR K w F o kvs ∧ r (.ref a) H Q
theorem r_mxv (hr : Room kk X.A) (hc : X.calm = true) : CallR X (.builtin "max") (one1 fun x H Q => ∃ F a p o kvs r, x = .ref p ∧ Same F H ∧ H p = some (RawO p (viewO a)) ∧ H a = some (RawO a o) ∧ DicR X.K X.w F o kvs ∧ f1 .mxv (.dict kvs) = some r ∧ ∀ v F' H', PPost X.K X.w F H false r v F' H' → Q v H') := fun pins s σ H xs us Q I rx ⟨x, ex, F, a, p, o, kvs, r, e1, sub, hp, hq, hd, e, k⟩ => by
  subst ex e1
  obtain ⟨u, eu, r1⟩ := vals1 rx
  subst eu
  cases r1
  have hh := I.ok.hd hc
  have hu8 := hr.un
  simp only [f1] at e
  obtain ⟨x1, r1', ed, hal, hno, hdk, er⟩ := greatest_some e
  obtain ⟨pq, _, _⟩ := I.hok a _ hq
  obtain ⟨pv, _, _⟩ := I.hok p _ hp
  obtain ⟨es, ep, xs, hdat, he, hn, t⟩ := hd.es
  obtain ⟨vs, rv, ha⟩ := t.valsD
  obtain ⟨as, rd⟩ := Dp.readsAll I _ vs _ (ha.mono sub) rv
  have hl : es.size = xs.length := by
    have := congrArg List.length he
    simpa using this
  rw [ed] at rd ha hal hno hdk
  refine max_view (w := X.w) hh ⟨_, pv.1, rfl, rfl⟩ (⟨o, pq.1, hd.ex, hdat⟩ : s.heap.DictRaw a es ep) (by rw [List.length_map, hl]) (fun i hi => vals_of_es he hi) rd (alikeAll_of hal hno) (by have := dok_depth hdk; omega) fun i v h' tk bs hi r2 hk => ?_
  obtain ⟨z, rz, hp2⟩ := best_dp I sub rv ha hi hk r2 (alikeAll_of hal hno) (maxD_mem _ _)
  subst er
  exact ⟨z, H, I.kept (t' := tk) hk, rz, k z F H (.imm sub (.dat hp2))⟩
/-! methods of dicts -/
theorem tyD_is {x : V} {v : Value} (I : Inv X pins σ H s) (r : RelV x v) (ty : TyD x H) : s.TypeIs v "dict" ∧ ∀ a, v = .ref a → ∃ ob, s.heap.get? a = some ob ∧ ob.dict = none := by
  obtain ⟨a, o, e, hq, ex⟩ := ty
  subst e
  cases r
  obtain ⟨p, _, _⟩ := I.hok a _ hq
  exact ⟨⟨o, p.1, ex.1⟩, fun b e => by cases e; exact ⟨o, p.1, ex.2.1⟩⟩
def tBD0 (r : V → List V → Hp → VK → Prop) (to : TE) : TE := fun σ H Q => to σ H fun x H1 => TyD x H1 ∧ r x [] H1 Q
def tBD (r : V → List V → Hp → VK → Prop) (to : TE) (t : TA) : TE := fun σ H Q => to σ H fun x H1 => TyD x H1 ∧ t σ H1 fun xs H2 => r x xs H2 Q
section
variable {o e : Expr} {es : List Expr} {to : TE} {t : TA} {name : Str} {apos cpos : Pos} {id : String} {r : V → List V → Hp → VK → Prop}
theorem pe_bd0 (slot : Slot "dict" name id) (hty : typeOf (.builtin id) = pure (.type "method_descriptor")) (hm : MtR X id r) (ho : PE X o to)
    (hbase : attributeBase o name X.env (eval o X.env) = eval o X.env) (hline : (apos.endLine == cpos.line) = true) : PE X (.Call (.Attribute o name apos) [] [] cpos) (tBD0 r to) := by
  refine ⟨fun pins s σ H Q I h => ?_⟩
  refine wpAny_Call_method0_late hbase hline (thn (ho.run pins s σ H _ I h) fun v s1 ⟨x, H1, I1, r1, ty, q1⟩ => ?_)
  obtain ⟨h1, h2⟩ := tyD_is I1 r1 ty
  exact ⟨"dict", id, PySem.F.plainAttrs_dict, slot, hty, h1, h2, Calls.callWith_builtin rfl (PySem.evalArgs_none (hm pins s1 σ H1 x [] v [] Q I1 r1 .nil q1))⟩
theorem pe_bd (slot : Slot "dict" name id) (hty : typeOf (.builtin id) = pure (.type "method_descriptor")) (hm : MtR X id r) (ho : PE X o to) (ha : PA X (e :: es) t)
    (hbase : attributeBase o name X.env (eval o X.env) = eval o X.env)
    (hfew : ((backTo cpos (starEach (e :: es) X.env)).all (fun x => !x.1) && (backToKw cpos (keywordEach [] X.env)).all (fun x => x.1.isSome)
      && decide ((e :: es).length + ([] : List Keyword).length + (if ([] : List Keyword).isEmpty then 0 else 1) < 30)) = true)
    (hline : (apos.endLine == cpos.line) = true) (hs : starEach (e :: es) X.env = (false, eval e X.env) :: starEach es X.env) (hplain : (backTo cpos (starEach es X.env)).any (·.1) = false) :
    PE X (.Call (.Attribute o name apos) (e :: es) [] cpos) (tBD r to t) := by
  refine ⟨fun pins s σ H Q I h => ?_⟩
  refine wpAny_Call_method_late hbase hfew hline rfl (thn (ho.run pins s σ H _ I h) fun v s1 ⟨x, H1, I1, r1, ty, q1⟩ => ?_)
  obtain ⟨h1, h2⟩ := tyD_is I1 r1 ty
  refine ⟨"dict", id, PySem.F.plainAttrs_dict, slot, hty, h1, h2, ?_⟩
  have hA := ha.run cpos pins s1 σ H1 _ I1 q1
  rw [hs] at hA ⊢
  refine Calls.callWith_builtin (by show (false || (backTo cpos (starEach es X.env)).any (·.1)) = false; rw [hplain] <;> rfl) (Calls.evalArgs_plain ?_)
  exact thn hA fun us s2 ⟨vs, H2, I2, r2, q2⟩ => hm pins s2 σ H2 x vs v us Q I2 r1 r2 q2
end
/-- max(d.values()) -/
theorem p_mxv {e : Expr} {t : TE} {p pos apos cpos : Pos} (hr : Room kk X.A) (hc : X.calm = true) (mt : Mono t) (he : PE X e t) (hg : Gl X "max") (hm : X.mg "max" = none)
    (hb : attributeBase e "values" X.env (eval e X.env) = eval e X.env) (hline : (apos.endLine == cpos.line) = true) :
    PE X (.Call (.Name "max" p) [.Call (.Attribute e "values" apos) [] [] cpos] [] pos) (fun σ H Q => t σ H fun x H1 => sem1 X.K X.w .mxv x H1 Q) := by
  have h1 := pe_bd0 (cpos := cpos) PySem.F.slot_dict_values PySem.F.type_dict_values (mt_values (X := X)) he hb hline
  refine (pe_callB (pos := pos) (p := p) (CallR.on1 (r_mxv hr hc)) hg hm (by kernel_rfl) (pa_cons h1 pa_nil)).weak fun σ H Q h => ?_
  refine mt σ H _ _ (fun x H1 q => ?_) h
  obtain ⟨F, d, r, sub, hv, e, k⟩ := q
  cases d <;> simp only [f1, reduceCtorEq] at e
  obtain ⟨a, o, ev, hq, hd⟩ := hv.dict sub rfl
  subst ev
  refine ⟨⟨a, o, rfl, hq, hd.ex⟩, F, a, o, _, rfl, rfl, sub, hq, hd, fun p hp => ?_⟩
  have ha : a ≠ p := fun z => by rw [z, hp] at hq; cases hq
  refine ⟨F, a, p, o, _, r, rfl, sub.trans (same_upd hp), upd_same, by rw [upd_ne ha]; exact hq, hd, e, fun v F' H' pp => k v F' H' ⟨?_, pp.val, fun z => nomatch z⟩⟩
  exact ⟨pp.ext.ff, (same_upd hp).trans pp.ext.hh, pp.ext.sub, fun b x y q1 q2 => pp.ext.nw b x y (same_upd hp _ _ q1) q2⟩
end
end Ky
end

section
set_option autoImplicit false
set_option linter.all false
set_option maxRecDepth 100000
set_option Elab.async false
/-! The primitives of two operands. -/
namespace Ky
open PySem PySem.Spec L2
open PyProof.Rows hiding St
section
variable {X : Cx} {pins : List (Addr × Obj)} {σ : L2.St} {H F : Hp} {s : Shared} {K : PySem.W.Frag} {w : World} {kk : Nat}
theorem r_add : OpR X (binaryOp .Add) (sem2 X.K X.w .add) := fun pins s σ H x y v u Q I rx ry ⟨F, d, e, r, sub, hx, hy, ef, k⟩ => by
  cases d <;> cases e <;> simp only [f2, reduceCtorEq, Option.some.injEq] at ef
  case int.int i j =>
    subst ef
    exact op_add pins s σ H x y v u Q I rx ry ⟨i, j, hx.int rfl, hy.int rfl, k _ F H (.immT sub rfl .int)⟩
  case str.str a b =>
    split at ef
    · rename_i hz
      cases ef
      exact op_add_str pins s σ H x y v u Q I rx ry ⟨a, b, hx.str rfl, hy.str rfl, by rw [← SL_eq]; exact hz, k _ F H (.immT sub rfl .str)⟩
    · cases ef
  case list.list ds es =>
    simp only [guardL] at ef
    split at ef
    · rename_i hz
      cases ef
      obtain ⟨a, xs, ev, hs, ha⟩ := hx.list sub rfl
      obtain ⟨b, ys, ev2, hs2, ha2⟩ := hy.list sub rfl
      subst ev ev2
      cases rx
      cases ry
      obtain ⟨its, rv, p, hz1⟩ := I.list hs
      obtain ⟨its2, rv2, p2, hz2⟩ := I.list hs2
      obtain ⟨⟨cls, dd, data, sl⟩, ho, hcl, n, hd⟩ := p.isList
      obtain ⟨⟨cls2, dd2, data2, sl2⟩, ho2, hc2, n2, hd2⟩ := p2.isList
      simp only at hcl hd hc2 hd2
      subst hcl hd hc2 hd2
      have l1 := rv.length
      have l2 := rv2.length
      have l3 := ha.length
      have l4 := ha2.length
      rw [SL_eq, List.length_append] at hz
      have e : its.toArray ++ its2.toArray = (its ++ its2).toArray := by simp
      refine concat_meets ⟨_, ho, rfl⟩ ⟨_, ho2, rfl⟩ noFill_list_add seq_list_add PySem.F.slot_list_add PySem.F.entry_list_add (PySem.F.args_list_add_2 _ _) (list_addW a b its.toArray its2.toArray n n2 dd dd2 sl sl2 (by simp; omega)) ⟨ho, ho2, ?_⟩
      rw [e]
      have hz3 : (xs ++ ys).length ≤ sizeLine := by rw [List.length_append]; omega
      exact ⟨.ref _, _, I.laid (t' := s.toks) (o := .lst (xs ++ ys)) (fun b ob q => Heap.get?_push_of_some _ q) (Nat.le_refl _) ⟨hz3, _, 0, rv.append rv2, Heap.get?_push_size _ rfl⟩, rfl, k _ _ _ (.lst sub (I.hok.fresh (Nat.le_refl _)) (ha.append ha2) (by rw [SL_eq]; exact hz3))⟩
    · cases ef
  case tuple.tuple ds es =>
    simp only [guardT] at ef
    split at ef
    · rename_i hz
      cases ef
      obtain ⟨a, xs, ev, hs, ha⟩ := hx.tup sub rfl
      obtain ⟨b, ys, ev2, hs2, ha2⟩ := hy.tup sub rfl
      subst ev ev2
      have l3 := ha.length
      have l4 := ha2.length
      rw [SL_eq, List.length_append] at hz
      have hx' : Rv X.K X.w F (.ref a) (.tuple ds) := by
        rcases hx with h | ⟨_, _, _, _, h⟩
        · exact h
        · cases h
      have hy' : Rv X.K X.w F (.ref b) (.tuple es) := by
        rcases hy with h | ⟨_, _, _, _, h⟩
        · exact h
        · cases h
      refine op_catA pins s σ H _ _ v u Q I rx ry ⟨a, b, xs, ys, rfl, rfl, hs, hs2, by omega, fun e => ?_, fun _ e => ?_, fun _ _ p hp => k _ _ _ (.tupT sub hp (ha.append ha2))⟩
      · subst e
        cases ha
        exact k _ F H (.immT sub rfl hy')
      · subst e
        cases ha2
        rw [List.append_nil] at k
        exact k _ F H (.immT sub rfl hx')
    · cases ef
theorem r_sub : OpR X (binaryOp .Sub) (sem2 X.K X.w .sub) := fun pins s σ H x y v u Q I rx ry ⟨F, d, e, r, sub, hx, hy, ef, k⟩ => by
  cases d <;> cases e <;> simp only [f2, reduceCtorEq, Option.some.injEq] at ef
  case int.int i j =>
    subst ef
    exact op_sub pins s σ H x y v u Q I rx ry ⟨i, j, hx.int rfl, hy.int rfl, k _ F H (.imm sub .int)⟩
theorem small_of {i : Int} (h : small i = true) : -(2 ^ 64) < i ∧ i < 2 ^ 64 := by
  simpa only [small, Bool.and_eq_true, decide_eq_true_eq] using h
theorem r_mul : OpR X (binaryOp .Mult) (sem2 X.K X.w .mul) := fun pins s σ H x y v u Q I rx ry ⟨F, d, e, r, sub, hx, hy, ef, k⟩ => by
  cases d <;> cases e <;> simp only [f2, reduceCtorEq, Option.some.injEq] at ef
  case int.int i j =>
    split at ef
    · rename_i hc
      cases ef
      refine op_mul pins s σ H x y v u Q I rx ry ⟨i, j, hx.int rfl, hy.int rfl, ?_, k _ F H (.imm sub .int)⟩
      simp only [Bool.or_eq_true] at hc
      exact hc.imp small_of small_of
    · cases ef
theorem r_fdiv : OpR X (binaryOp .FloorDiv) (sem2 X.K X.w .fdiv) := fun pins s σ H x y v u Q I rx ry ⟨F, d, e, r, sub, hx, hy, ef, k⟩ => by
  cases d <;> cases e <;> simp only [f2, reduceCtorEq, Option.some.injEq] at ef
  case int.int i j =>
    split at ef
    · rename_i hc
      cases ef
      simp only [Bool.and_eq_true, decide_eq_true_eq] at hc
      exact op_fdivN pins s σ H x y v u Q I rx ry ⟨i, j, hx.int rfl, hy.int rfl, hc, k _ F H (.imm sub .int)⟩
    · cases ef
theorem r_mod : OpR X (binaryOp .Mod) (sem2 X.K X.w .mod) := fun pins s σ H x y v u Q I rx ry ⟨F, d, e, r, sub, hx, hy, ef, k⟩ => by
  cases d <;> cases e <;> simp only [f2, reduceCtorEq, Option.some.injEq] at ef
  case int.int i j =>
    split at ef
    · rename_i hc
      cases ef
      exact op_modN pins s σ H x y v u Q I rx ry ⟨i, j, hx.int rfl, hy.int rfl, hc, k _ F H (.imm sub .int)⟩
    · cases ef
theorem r_pow : OpR X (binaryOp .Pow) (sem2 X.K X.w .pow) := fun pins s σ H x y v u Q I rx ry ⟨F, d, e, r, sub, hx, hy, ef, k⟩ => by
  cases d <;> cases e <;> simp only [f2, reduceCtorEq, Option.some.injEq] at ef
  case int.int i j =>
    split at ef
    · rename_i hc
      cases ef
      simp only [Bool.and_eq_true, decide_eq_true_eq] at hc
      exact op_pow pins s σ H x y v u Q I rx ry ⟨i, j, hx.int rfl, hy.int rfl, ⟨hc.1.1, hc.1.2, hc.2⟩, k _ F H (.imm sub .int)⟩
    · cases ef

/-! comparisons -/
theorem alike_noDict : ∀ {d e : D}, PySem.W.alike d e = true → noDict d = true ∧ noDict e = true := fun {d e} h => by
  cases d <;> cases e <;> first | exact ⟨rfl, rfl⟩ | (simp [PySem.W.alike] at h)
theorem cmpOk_of {d e : D} (h : cmpOk d e = true) : PySem.W.alike d e = true ∧ d ≠ .none ∧ d.depth ≤ 64 := by
  simp only [cmpOk, Bool.and_eq_true, dok, decide_eq_true_eq] at h
  refine ⟨h.1.1, fun z => ?_, h.2⟩
  subst z
  exact absurd h.1.2 (by decide)
/-- the four of them at once: g is what f2 gives but for ints -/
theorem cmp_gen {op : CmpOp} {p : P2} {g : D → D → Bool} {cmpI : Int → Int → Bool} (hr : Room kk X.A) (hf : p.fresh = false)
    (hI : ∀ i j, f2 p (.int i) (.int j) = some (.bool (cmpI i j)))
    (hD : ∀ d e r, f2 p d e = some r → (∃ i j, d = .int i ∧ e = .int j) ∨ (cmpOk d e = true ∧ r = .bool (g d e)))
    (hopI : OpR X (compareOp op) (rI0 fun i j => .bl (cmpI i j)))
    (hop : ∀ {s : Shared} {a b : Value} {d e : D} {as bs : List Addr} {Q : Value → Shared → Prop}, Reads s.heap a d as → Reads s.heap b e bs → PySem.W.alike d e = true → d ≠ .none → X.A.units + min d.depth e.depth < cLine → Q (.bool (g d e)) s → wpAny (model X.prog X.w) X.A (compareOp op a b) Q X.xe s) :
    OpR X (compareOp op) (sem2 X.K X.w p) := fun pins s σ H x y v u Q I rx ry ⟨F, d, e, r, sub, hx, hy, ef, k⟩ => by
  rw [hf] at k
  rcases hD d e r ef with ⟨i, j, e1, e2⟩ | ⟨hc, er⟩
  · subst e1 e2
    rw [hI] at ef
    cases ef
    exact hopI pins s σ H x y v u Q I rx ry ⟨i, j, hx.int rfl, hy.int rfl, k _ F H (.imm sub .bool)⟩
  · subst er
    obtain ⟨h1, h2, h3⟩ := cmpOk_of hc
    obtain ⟨n1, n2⟩ := alike_noDict h1
    obtain ⟨as, ra⟩ := Dp.reads I d x v (hx.dp sub n1) rx
    obtain ⟨bs, rb⟩ := Dp.reads I e y u (hy.dp sub n2) ry
    have := hr.un
    have := Nat.min_le_left d.depth e.depth
    exact hop ra rb h1 h2 (by omega) ⟨.bl _, H, I, rfl, k _ F H (.imm sub .bool)⟩
theorem r_lt (hr : Room kk X.A) : OpR X (compareOp .Lt) (sem2 X.K X.w .lt) := cmp_gen (g := fun d e => PySem.W.dataLt d e) (cmpI := fun i j => decide (i < j)) hr rfl (fun i j => rfl) (fun d e r h => by
  cases d <;> cases e <;> simp only [f2, Option.ite_none_right_eq_some, Option.some.injEq] at h <;> first | exact .inr ⟨h.1, h.2.symm⟩ | exact .inl ⟨_, _, rfl, rfl⟩) op_lt fun ra rb h n hu hq => PySem.W.lt_data ra rb h n hu hq
theorem r_le (hr : Room kk X.A) : OpR X (compareOp .LtE) (sem2 X.K X.w .le) := cmp_gen (g := fun d e => !PySem.W.dataLt e d) (cmpI := fun i j => decide (i ≤ j)) hr rfl (fun i j => rfl) (fun d e r h => by
  cases d <;> cases e <;> simp only [f2, Option.ite_none_right_eq_some, Option.some.injEq] at h <;> first | exact .inr ⟨h.1, h.2.symm⟩ | exact .inl ⟨_, _, rfl, rfl⟩) op_le fun ra rb h n hu hq => PySem.W.le_data ra rb h n hu hq
theorem r_gt (hr : Room kk X.A) : OpR X (compareOp .Gt) (sem2 X.K X.w .gt) := cmp_gen (g := fun d e => PySem.W.dataLt e d) (cmpI := fun i j => decide (j < i)) hr rfl (fun i j => rfl) (fun d e r h => by
  cases d <;> cases e <;> simp only [f2, Option.ite_none_right_eq_some, Option.some.injEq] at h <;> first | exact .inr ⟨h.1, h.2.symm⟩ | exact .inl ⟨_, _, rfl, rfl⟩) op_gt fun ra rb h n hu hq => PySem.W.gt_data ra rb h n hu hq
theorem r_ge (hr : Room kk X.A) : OpR X (compareOp .GtE) (sem2 X.K X.w .ge) := cmp_gen (g := fun d e => !PySem.W.dataLt d e) (cmpI := fun i j => decide (j ≤ i)) hr rfl (fun i j => rfl) (fun d e r h => by
  cases d <;> cases e <;> simp only [f2, Option.ite_none_right_eq_some, Option.some.injEq] at h <;> first | exact .inr ⟨h.1, h.2.symm⟩ | exact .inl ⟨_, _, rfl, rfl⟩) op_ge fun ra rb h n hu hq => PySem.W.ge_data ra rb h n hu hq
theorem plain_noDict {d : D} (h : d.plain = true) : noDict d = true := by
  cases d <;> first | rfl | (simp [PyData.plain] at h)
theorem eqOk_of {d e : D} (h : (d.plain && e.plain && dok d) = true) : d.plain = true ∧ e.plain = true ∧ d.depth ≤ 64 := by
  simp only [Bool.and_eq_true, dok, decide_eq_true_eq] at h
  exact ⟨h.1.1, h.1.2, h.2⟩
theorem r_eq (hr : Room kk X.A) : OpR X (compareOp .Eq) (sem2 X.K X.w .eq) := fun pins s σ H x y v u Q I rx ry ⟨F, d, e, r, sub, hx, hy, ef, k⟩ => by
  simp only [f2, Option.ite_none_right_eq_some, Option.some.injEq] at ef
  obtain ⟨hc, er⟩ := ef
  subst er
  obtain ⟨h1, h2, h3⟩ := eqOk_of hc
  obtain ⟨as, ra⟩ := Dp.reads I d x v (hx.dp sub (plain_noDict h1)) rx
  obtain ⟨bs, rb⟩ := Dp.reads I e y u (hy.dp sub (plain_noDict h2)) ry
  have := hr.un
  have := Nat.min_le_left d.depth e.depth
  exact PySem.SeqAt.eq_plain ra rb h1 h2 (by omega) ⟨.bl _, H, I, rfl, k _ F H (.imm sub .bool)⟩
theorem r_ne (hr : Room kk X.A) : OpR X (compareOp .NotEq) (sem2 X.K X.w .ne) := fun pins s σ H x y v u Q I rx ry ⟨F, d, e, r, sub, hx, hy, ef, k⟩ => by
  simp only [f2, Option.ite_none_right_eq_some, Option.some.injEq] at ef
  obtain ⟨hc, er⟩ := ef
  subst er
  obtain ⟨h1, h2, h3⟩ := eqOk_of hc
  obtain ⟨as, ra⟩ := Dp.reads I d x v (hx.dp sub (plain_noDict h1)) rx
  obtain ⟨bs, rb⟩ := Dp.reads I e y u (hy.dp sub (plain_noDict h2)) ry
  have := hr.un
  have := Nat.min_le_left d.depth e.depth
  exact PySem.SeqAt.ne_plain ra rb h1 h2 (by omega) ⟨.bl _, H, I, rfl, k _ F H (.imm sub .bool)⟩
theorem r_in (hr : Room kk X.A) : OpR X (compareOp .In) (sem2 X.K X.w .isin) := fun pins s σ H x y v u Q I rx ry ⟨F, d, e, r, sub, hx, hy, ef, k⟩ => by
  cases e <;> simp only [f2, reduceCtorEq, Option.ite_none_right_eq_some, Option.some.injEq] at ef
  case dict kvs =>
    obtain ⟨hk, er⟩ := ef
    subst er
    exact r_in_dict hr I rx ry sub hk hx hy (k _ F H (.imm sub .bool))
  case list ds =>
    obtain ⟨hc, er⟩ := ef
    subst er
    simp only [Bool.and_eq_true, dok, decide_eq_true_eq] at hc
    obtain ⟨as, ra⟩ := Dp.reads I d x v (hx.dp sub (plain_noDict hc.1.1)) rx
    obtain ⟨bs, rb⟩ := Dp.reads I (.list ds) y u (hy.dp sub rfl) ry
    have := hr.un
    have := Nat.min_le_right (PyData.depthAll ds) d.depth
    exact PySem.SeqAt.in_list_data rb ra hc.1.2 hc.1.1 (by omega) ⟨.bl _, H, I, rfl, k _ F H (.imm sub .bool)⟩
  case tuple ds =>
    obtain ⟨hc, er⟩ := ef
    subst er
    simp only [Bool.and_eq_true, dok, decide_eq_true_eq] at hc
    obtain ⟨as, ra⟩ := Dp.reads I d x v (hx.dp sub (plain_noDict hc.1.1)) rx
    obtain ⟨bs, rb⟩ := Dp.reads I (.tuple ds) y u (hy.dp sub rfl) ry
    have := hr.un
    have := Nat.min_le_right (PyData.depthAll ds) d.depth
    exact PySem.SeqAt.in_tuple_data rb ra hc.1.2 hc.1.1 (by omega) ⟨.bl _, H, I, rfl, k _ F H (.imm sub .bool)⟩
theorem r_notin (hr : Room kk X.A) : OpR X (compareOp .NotIn) (sem2 X.K X.w .notin) := fun pins s σ H x y v u Q I rx ry ⟨F, d, e, r, sub, hx, hy, ef, k⟩ => by
  cases e <;> simp only [f2, reduceCtorEq, Option.ite_none_right_eq_some, Option.some.injEq] at ef
  case dict kvs =>
    obtain ⟨hk, er⟩ := ef
    subst er
    exact r_notin_dict hr I rx ry sub hk hx hy (k _ F H (.imm sub .bool))
  case list ds =>
    obtain ⟨hc, er⟩ := ef
    subst er
    simp only [Bool.and_eq_true, dok, decide_eq_true_eq] at hc
    obtain ⟨as, ra⟩ := Dp.reads I d x v (hx.dp sub (plain_noDict hc.1.1)) rx
    obtain ⟨bs, rb⟩ := Dp.reads I (.list ds) y u (hy.dp sub rfl) ry
    have := hr.un
    have := Nat.min_le_right (PyData.depthAll ds) d.depth
    exact PySem.SeqAt.notIn_list_data rb ra hc.1.2 hc.1.1 (by omega) ⟨.bl _, H, I, rfl, k _ F H (.imm sub .bool)⟩
  case tuple ds =>
    obtain ⟨hc, er⟩ := ef
    subst er
    simp only [Bool.and_eq_true, dok, decide_eq_true_eq] at hc
    obtain ⟨as, ra⟩ := Dp.reads I d x v (hx.dp sub (plain_noDict hc.1.1)) rx
    obtain ⟨bs, rb⟩ := Dp.reads I (.tuple ds) y u (hy.dp sub rfl) ry
    have := hr.un
    have := Nat.min_le_right (PyData.depthAll ds) d.depth
    exact PySem.SeqAt.notIn_tuple_data rb ra hc.1.2 hc.1.1 (by omega) ⟨.bl _, H, I, rfl, k _ F H (.imm sub .bool)⟩
/-! subscripts -/
theorem ixOf_atI {α : Type} {xs : List α} {i : Int} : ixOf xs i = atI xs i := by
  unfold ixOf atI ixN
  by_cases h0 : 0 ≤ i
  · rw [if_pos h0, if_pos h0]
    by_cases h1 : i < xs.length
    · rw [if_pos h1]; rfl
    · rw [if_neg h1, List.getElem?_eq_none (by omega)]; rfl
  · rw [if_neg h0, if_neg h0]
    by_cases h1 : -(xs.length : Int) ≤ i
    · rw [if_pos h1, if_pos h1]; rfl
    · rw [if_neg h1, if_neg h1]; rfl
theorem DpAll.atI' {xs : List V} {ds : List D} {i : Int} {d : D} (h : DpAll K F xs ds) (e : ixOf ds i = some d) : ∃ v, atI xs i = some v ∧ Dp K F v d := by
  rw [ixOf_atI] at e
  unfold atI at e ⊢
  rw [h.length]
  cases q : ixN ds.length i with
  | none => rw [q] at e; cases e
  | some j =>
    rw [q] at e
    exact DpAll.get h e
theorem r_ix (hr : Room kk X.A) : IxR X (sem2 X.K X.w .ix) := fun value slice pins s σ H x y v u Q I rx ry ⟨F, d, e, r, sub, hx, hy, ef, k⟩ hs => by
  cases d with
  | dict kvs =>
    have ef : (if keyable e then dlook kvs e else none) = some r := by
      cases e <;> exact ef
    simp only [Option.ite_none_right_eq_some] at ef
    obtain ⟨hk, hl⟩ := ef
    obtain ⟨a, o, ev, hq, hd⟩ := hx.dict sub rfl
    have hty := (tyD_is I rx ⟨a, o, ev, hq, hd.ex⟩).1
    exact tail_any hty PySem.F.slot_dict_getitem.lookup (r_ix_dict hr I rx ry sub hk hx hy hl fun z hz => k z F H (.imm sub (.dat hz))) hs
  | list ds =>
    cases e <;> simp only [f2, reduceCtorEq] at ef
    case int i =>
      obtain ⟨a, xs, ev, hs2, ha⟩ := hx.list sub rfl
      obtain ⟨z, hz, hp⟩ := DpAll.atI' ha ef
      exact ix_list value slice pins s σ H x y v u Q I rx ry ⟨a, xs, i, z, ev, hy.int rfl, hs2, hz, k z F H (.imm sub (.dat hp))⟩ hs
  | tuple ds =>
    cases e <;> simp only [f2, reduceCtorEq] at ef
    case int i =>
      obtain ⟨a, xs, ev, hs2, ha⟩ := hx.tup sub rfl
      obtain ⟨z, hz, hp⟩ := DpAll.atI' ha ef
      exact ix_tup value slice pins s σ H x y v u Q I rx ry ⟨a, xs, i, z, ev, hy.int rfl, hs2, hz, k z F H (.imm sub (.dat hp))⟩ hs
  | _ => simp only [f2, reduceCtorEq] at ef
end
end Ky
end

section
set_option autoImplicit false
set_option linter.all false
set_option maxRecDepth 100000
set_option Elab.async false
/-! min and max of two, slices, get. -/
namespace Ky
open PySem PySem.Spec L2
open PyProof.Rows hiding St
section
variable {X : Cx} {pins : List (Addr × Obj)} {σ : L2.St} {H F : Hp} {s : Shared} {K : PySem.W.Frag} {w : World} {kk : Nat}
def on2 (r : V → V → Hp → VK → Prop) : List V → Hp → VK → Prop
  | [x, y], H, Q => r x y H Q
  | _, _, _ => False
theorem r_mx2 (hc : X.calm = true) : CallR X (.builtin "max") (on2 (sem2 X.K X.w .mx2)) := fun pins s σ H xs us Q I rx q => by
  match xs, q with
  | [x, y], ⟨F, d, e, r, sub, hx, hy, ef, k⟩ =>
    cases d <;> cases e <;> simp only [f2, reduceCtorEq, Option.some.injEq] at ef
    subst ef
    exact call_max2 hc pins s σ H _ us Q I rx ⟨_, _, by rw [hx.int rfl, hy.int rfl], k _ F H (.imm sub .int)⟩
theorem r_mn2 (hc : X.calm = true) : CallR X (.builtin "min") (on2 (sem2 X.K X.w .mn2)) := fun pins s σ H xs us Q I rx q => by
  match xs, q with
  | [x, y], ⟨F, d, e, r, sub, hx, hy, ef, k⟩ =>
    cases d <;> cases e <;> simp only [f2, reduceCtorEq, Option.some.injEq] at ef
    subst ef
    exact call_min2 hc pins s σ H _ us Q I rx ⟨_, _, by rw [hx.int rfl, hy.int rfl], k _ F H (.imm sub .int)⟩
/-! slices -/
theorem cutIx_sIx (n d : Nat) (o : Option Int) : cutIx n d o = HT.sIx n d o := by
  cases o <;> rfl
theorem DpAll.cut {xs : List V} {ds : List D} (h : DpAll K F xs ds) (lo hi : Option Int) : DpAll K F (cutV xs lo hi) (cut ds lo hi) := by
  unfold cutV Ky.cut
  rw [cutIx_sIx, cutIx_sIx, h.length]
  exact (L2.DpAll.drop _ h).take _
theorem cut_whole {xs : List D} {lo hi : Option Int} (h : HT.sIx xs.length 0 lo = 0 ∧ HT.sIx xs.length xs.length hi = xs.length) : cut xs lo hi = xs := by
  unfold cut
  rw [cutIx_sIx, cutIx_sIx, h.1, h.2]
  simp
/-- a slice of a value: what f2, f3 give -/
def cutD (d : D) (lo hi : Option Int) : Option D := match d with
  | .list xs => some (.list (cut xs lo hi))
  | .tuple xs => some (.tuple (cut xs lo hi))
  | _ => none
def semS (K : PySem.W.Frag) (w : World) : V → Option Int → Option Int → Hp → VK → Prop := fun x lo hi H Q => ∃ F d r, Same F H ∧ RvW K w F H x d ∧ cutD d lo hi = some r ∧ ∀ v F' H', PPost K w F H true r v F' H' → Q v H'
theorem sl_any : SlR X (semS X.K X.w) := fun pins s σ H x v vl vu lo hi sl Q I rx hs pl pu ⟨F, d, r, sub, hx, ef, k⟩ => by
  cases d <;> simp only [cutD, reduceCtorEq, Option.some.injEq] at ef
  case list ds =>
    subst ef
    obtain ⟨a, xs, ev, hs2, ha⟩ := hx.list sub rfl
    obtain ⟨_, _, _, hz⟩ := I.list hs2
    exact sl_list pins s σ H x v vl vu lo hi sl Q I rx hs pl pu ⟨a, xs, ev, hs2, fun p hp => k _ _ _ (.lst sub hp (DpAll.cut ha lo hi) (by rw [SL_eq]; exact Nat.le_trans (cutV_length xs lo hi) hz))⟩
  case tuple ds =>
    subst ef
    obtain ⟨a, xs, ev, hs2, ha⟩ := hx.tup sub rfl
    have hx' : Rv X.K X.w F x (.tuple ds) := by
      rcases hx with h | ⟨_, _, _, _, h⟩
      · exact h
      · cases h
    refine sl_tupA pins s σ H x v vl vu lo hi sl Q I rx hs pl pu ⟨a, xs, ev, hs2, fun hw => ?_, fun _ p hp => k _ _ _ (.tupT sub hp (DpAll.cut ha lo hi))⟩
    rw [ha.length] at hw
    rw [cut_whole hw] at k
    subst ev
    exact k _ F H (.immT sub rfl hx')
section
variable {a b c : Expr} {t u z : TE} {p2 pos : Pos}
theorem p_slLo (mt : Mono t) (mu : Mono u) (ha : PE X a t) (hb : PE X b u) : PE X (.Subscript a (.Slice (some b) none none p2) pos) (fun σ H Q => t σ H fun x H1 => u σ H1 fun y H2 => sem2 X.K X.w .slLo x y H2 Q) :=
  (pe_slice sl_any ha (po_some hb) po_none).weak fun σ H Q h => mt σ H _ _ (fun x H1 q => mu σ H1 _ _ (fun y H2 ⟨F, d, e, r, sub, hx, hy, ef, k⟩ => by
    have ex : ∃ i, e = .int i ∧ cutD d (some i) none = some r := by
      cases d <;> cases e <;> simp only [f2, reduceCtorEq] at ef <;> exact ⟨_, rfl, ef⟩
    obtain ⟨i, e1, ef'⟩ := ex
    exact ⟨i, hy.int e1, F, d, r, sub, hx, ef', k⟩) q) h
theorem p_slHi (mt : Mono t) (mu : Mono u) (ha : PE X a t) (hb : PE X b u) : PE X (.Subscript a (.Slice none (some b) none p2) pos) (fun σ H Q => t σ H fun x H1 => u σ H1 fun y H2 => sem2 X.K X.w .slHi x y H2 Q) :=
  (pe_slice sl_any ha po_none (po_some hb)).weak fun σ H Q h => mt σ H _ _ (fun x H1 q => mu σ H1 _ _ (fun y H2 ⟨F, d, e, r, sub, hx, hy, ef, k⟩ => by
    have ex : ∃ i, e = .int i ∧ cutD d none (some i) = some r := by
      cases d <;> cases e <;> simp only [f2, reduceCtorEq] at ef <;> exact ⟨_, rfl, ef⟩
    obtain ⟨i, e1, ef'⟩ := ex
    exact ⟨i, hy.int e1, F, d, r, sub, hx, ef', k⟩) q) h
end
/-! d.get(k), d.get(k, x) -/
theorem m_get (hr : Room kk X.A) : MtR X "dict.get" (fun x vs H Q => match vs with
    | [y] => sem2 X.K X.w .get x y H Q
    | [y, g] => sem3 X.K X.w .get x y g H Q
    | _ => False) := fun pins s σ H x vs v us Q I rx rs q => by
  match vs, q with
  | [y], ⟨F, d, e, r, sub, hx, hy, ef, k⟩ =>
    have ef : ∃ kvs, d = .dict kvs ∧ keyable e = true ∧ r = (dlook kvs e).getD .none := by
      cases d <;> simp only [f2, reduceCtorEq, Option.ite_none_right_eq_some, Option.some.injEq] at ef
      exact ⟨_, rfl, ef.1, ef.2.symm⟩
    obtain ⟨kvs, ed, hk, er⟩ := ef
    subst ed er
    exact r_get_dict hr I (.cons rx rs) sub hk hx hy fun z hz => k z F H (.imm sub (.dat hz))
  | [y, g], ⟨F, d, e, df, r, sub, hx, hy, hg, ef, k⟩ =>
    have ef : ∃ kvs, d = .dict kvs ∧ keyable e = true ∧ isMutD df = false ∧ r = (dlook kvs e).getD df := by
      cases d <;> simp only [f3, reduceCtorEq, Option.ite_none_right_eq_some, Option.some.injEq, Bool.and_eq_true, Bool.not_eq_true'] at ef
      exact ⟨_, rfl, ef.1.1, ef.1.2, ef.2.symm⟩
    obtain ⟨kvs, ed, hk, hm, er⟩ := ef
    subst ed er
    have hg' : Rv X.K X.w F g df := by
      rcases hg with h | ⟨_, _, _, _, h⟩
      · exact h
      · cases h <;> cases hm
    refine r_getOr_dict (df := df) hr I (.cons rx rs) sub hk hx hy (fun r z hl hz => k z F H ?_) (fun hl => k g F H ?_)
    · rw [hl]; exact .imm sub (.dat hz)
    · rw [hl]; exact .imm sub hg'
section
variable {a b c : Expr} {t u z : TE} {apos pos : Pos}
theorem p_get (hr : Room kk X.A) (ha : PE X a t) (hb : PE X b u)
    (hbase : attributeBase a "get" X.env (eval a X.env) = eval a X.env)
    (hfew : ((backTo pos (starEach [b] X.env)).all (fun x => !x.1) && (backToKw pos (keywordEach [] X.env)).all (fun x => x.1.isSome)
      && decide ([b].length + ([] : List Keyword).length + (if ([] : List Keyword).isEmpty then 0 else 1) < 30)) = true)
    (hline : (apos.endLine == pos.line) = true) (hs : starEach [b] X.env = (false, eval b X.env) :: starEach [] X.env) :
    PE X (.Call (.Attribute a "get" apos) [b] [] pos) (fun σ H Q => t σ H fun x H1 => TyD x H1 ∧ u σ H1 fun y H2 => sem2 X.K X.w .get x y H2 Q) :=
  pe_bd PySem.F.slot_dict_get PySem.F.type_dict_get (m_get hr) ha (pa_cons hb pa_nil hs) hbase hfew hline hs rfl
theorem p_getOr (hr : Room kk X.A) (ha : PE X a t) (hb : PE X b u) (hc : PE X c z)
    (hbase : attributeBase a "get" X.env (eval a X.env) = eval a X.env)
    (hfew : ((backTo pos (starEach [b, c] X.env)).all (fun x => !x.1) && (backToKw pos (keywordEach [] X.env)).all (fun x => x.1.isSome)
      && decide ([b, c].length + ([] : List Keyword).length + (if ([] : List Keyword).isEmpty then 0 else 1) < 30)) = true)
    (hline : (apos.endLine == pos.line) = true) (hs : starEach [b, c] X.env = (false, eval b X.env) :: starEach [c] X.env) (hs2 : starEach [c] X.env = (false, eval c X.env) :: starEach [] X.env) :
    PE X (.Call (.Attribute a "get" apos) [b, c] [] pos) (fun σ H Q => t σ H fun x H1 => TyD x H1 ∧ u σ H1 fun y H2 => z σ H2 fun g H3 => sem3 X.K X.w .get x y g H3 Q) :=
  pe_bd PySem.F.slot_dict_get PySem.F.type_dict_get (m_get hr) ha (pa_cons hb (pa_cons hc pa_nil hs2) hs) hbase hfew hline hs (by rw [hs2]; rfl)
end
end
end Ky
end

section
set_option autoImplicit false
set_option linter.all false
set_option maxRecDepth 100000
set_option Elab.async false
/-! Slots that change: what is owned is mutated, read, stored. -/
namespace Ky
open PySem PySem.Spec L2
open PyProof.Rows hiding St
section
variable {K : PySem.W.Frag} {w : World} {F F' F1 F2 H H' H1 H2 : Hp} {env env1 env2 : En} {σ σ1 σ2 : L2.St} {i : Nat} {a : Addr} {d d' : D} {o' : HO}
theorem OwnI.get (h : OwnI env σ i a) : ∃ d, env[i]? = some (.ow d) ∧ isMut d = true ∧ σ[i]? = some (some (.ref a)) := h
theorem Rel.ownI (r : Rel K w F env σ H) (e : env[i]? = some (.ow d)) (m : isMut d = true) : ∃ a o, OwnI env σ i a ∧ F a = none ∧ H a = some o ∧ ObR K w F a o d := by
  rcases r.slot i _ e with z | ⟨v, h1, h2⟩
  · cases z
  · rw [Rs.own_mut m] at h2
    obtain ⟨a, o, ev, n, q, ob⟩ := h2
    subst ev
    exact ⟨a, o, ⟨d, e, m, h1⟩, n, q, ob⟩
/-- an own object gets other content -/
theorem Stp.mut (r : Rel K w F env σ H) (ho : OwnI env σ i a) (hm : isMut d' = true) (ob : ObR K w F a o' d') : Stp K w F env σ H (env.set i (.ow d')) F (upd H a o') := by
  have hF : F a = none := (r.own ⟨i, ho⟩).1
  obtain ⟨d0, e0, m0, s0⟩ := id ho
  have hi : i < env.length := (List.getElem?_eq_some_iff.mp e0).1
  have own_back : ∀ j c, OwnI (env.set i (.ow d')) σ j c → OwnI env σ j c := fun j c ⟨dj, ej, mj, sj⟩ => by
    by_cases hj : j = i
    · subst hj
      exact ⟨d0, e0, m0, sj⟩
    · rw [List.getElem?_set_ne (Ne.symm hj)] at ej
      exact ⟨dj, ej, mj, sj⟩
  refine ⟨⟨Same.refl F, fun b o e n => ?_, fun _ _ _ _ _ q => q, fun b o e => ?_⟩, ⟨fun b o e => ?_, by rw [List.length_set]; exact r.len, fun j s e => ?_, fun j k c h1 h2 => r.apart j k c (own_back j c h1) (own_back k c h2)⟩, fun c ⟨j, h⟩ => ⟨j, own_back j c h⟩⟩
  · have hb : b ≠ a := fun z => n (by subst z; exact ⟨i, ho⟩)
    rw [upd_ne hb]; exact e
  · by_cases hb : b = a
    · subst hb; exact ⟨o', upd_same⟩
    · exact ⟨o, by rw [upd_ne hb]; exact e⟩
  · have hb : b ≠ a := fun z => by subst z; rw [hF] at e; cases e
    rw [upd_ne hb]; exact r.sub b o e
  · by_cases hj : j = i
    · subst hj
      rw [List.getElem?_set_self hi] at e
      cases e
      refine .inr ⟨.ref a, s0, ?_⟩
      rw [Rs.own_mut hm]
      exact ⟨a, o', rfl, hF, upd_same, ob⟩
    · rw [List.getElem?_set_ne (Ne.symm hj)] at e
      rcases r.slot j s e with z | ⟨v, h1, h2⟩
      · exact .inl z
      · refine .inr ⟨v, h1, ?_⟩
        cases s with
        | emp => exact h2
        | fz dj => exact h2
        | ow dj =>
          by_cases mj : isMut dj = true
          · rw [Rs.own_mut mj] at h2 ⊢
            obtain ⟨b, ob2, ev, n, q, rr⟩ := h2
            subst ev
            have hb : b ≠ a := fun z => by
              subst z
              exact hj (r.apart j i b ⟨dj, e, mj, h1⟩ ho)
            exact ⟨b, ob2, rfl, n, by rw [upd_ne hb]; exact q, rr⟩
          · rw [Rs.own_imm mj] at h2 ⊢
            exact h2
/-- a slot is read: what was its own is frozen -/
theorem Rel.read (r : Rel K w F env σ H) (e : env[i]? = some (.ow d)) : ∃ F' v, σ[i]? = some (some v) ∧ Stp K w F env σ H (env.set i (.fz d)) F' H ∧ Rv K w F' v d := by
  have hi : i < env.length := (List.getElem?_eq_some_iff.mp e).1
  by_cases m : isMut d = true
  · obtain ⟨a, o, ho, hF, hH, ob⟩ := r.ownI e m
    have hn : ∀ j s, (env.set i (.fz d))[j]? = some s → j ≠ i → env[j]? = some s := fun j s h hj => by
      rw [List.getElem?_set_ne (Ne.symm hj)] at h; exact h
    have own_back : ∀ j c, OwnI (env.set i (.fz d)) σ j c → OwnI env σ j c ∧ j ≠ i := fun j c ⟨dj, ej, mj, sj⟩ => by
      by_cases hj : j = i
      · subst hj
        rw [List.getElem?_set_self hi] at ej
        cases ej
      · exact ⟨⟨dj, hn j _ ej hj, mj, sj⟩, hj⟩
    refine ⟨upd F a o, .ref a, ho.choose_spec.2.2, ⟨⟨same_upd hF, fun _ _ q _ => q, fun b x e1 n o2 q => ?_, fun b x q => ⟨x, q⟩⟩, ⟨fun b x e1 => ?_, by rw [List.length_set]; exact r.len, fun j s ej => ?_, fun j k c h1 h2 => r.apart j k c (own_back j c h1).1 (own_back k c h2).1⟩, fun c ⟨j, h⟩ => ⟨j, (own_back j c h).1⟩⟩, ob.frozen upd_same (same_upd hF)⟩
    · have hb : b ≠ a := fun z => n (by subst z; exact ⟨i, ho⟩)
      rw [upd_ne hb] at q; exact q
    · by_cases hb : b = a
      · subst hb; rw [upd_same] at e1; cases e1; exact hH
      · rw [upd_ne hb] at e1; exact r.sub b x e1
    · by_cases hj : j = i
      · subst hj
        rw [List.getElem?_set_self hi] at ej
        cases ej
        exact .inr ⟨.ref a, ho.choose_spec.2.2, ob.frozen upd_same (same_upd hF)⟩
      · have ej' := hn j s ej hj
        rcases r.slot j s ej' with z | ⟨v, h1, h2⟩
        · exact .inl z
        · refine .inr ⟨v, h1, ?_⟩
          cases s with
          | emp => exact h2
          | fz dj => exact Rv.mono (same_upd hF) h2
          | ow dj =>
            by_cases mj : isMut dj = true
            · rw [Rs.own_mut mj] at h2 ⊢
              obtain ⟨b, ob2, ev, n, q, rr⟩ := h2
              subst ev
              have hb : b ≠ a := fun z => by
                subst z
                exact hj (r.apart j i b ⟨dj, ej', mj, h1⟩ ho)
              exact ⟨b, ob2, rfl, by rw [upd_ne hb]; exact n, q, rr.mono (same_upd hF)⟩
            · rw [Rs.own_imm mj] at h2 ⊢
              exact Rv.mono (same_upd hF) h2
  · rcases r.slot i _ e with z | ⟨v, h1, h2⟩
    · cases z
    · rw [Rs.own_imm m] at h2
      have own_back : ∀ j c, OwnI (env.set i (.fz d)) σ j c → OwnI env σ j c := fun j c ⟨dj, ej, mj, sj⟩ => by
        by_cases hj : j = i
        · subst hj
          rw [List.getElem?_set_self hi] at ej
          cases ej
        · rw [List.getElem?_set_ne (Ne.symm hj)] at ej
          exact ⟨dj, ej, mj, sj⟩
      refine ⟨F, v, h1, ⟨Mv.refl, ⟨r.sub, by rw [List.length_set]; exact r.len, fun j s ej => ?_, fun j k c q1 q2 => r.apart j k c (own_back j c q1) (own_back k c q2)⟩, fun c ⟨j, h⟩ => ⟨j, own_back j c h⟩⟩, h2⟩
      by_cases hj : j = i
      · subst hj
        rw [List.getElem?_set_self hi] at ej
        cases ej
        exact .inr ⟨v, h1, h2⟩
      · rw [List.getElem?_set_ne (Ne.symm hj)] at ej
        exact r.slot j s ej

/-! with a state that moves -/
structure Stq (K : PySem.W.Frag) (w : World) (F : Hp) (env : En) (σ : L2.St) (H : Hp) (env1 : En) (σ1 : L2.St) (F' H' : Hp) : Prop where
  mv : Mv F H (Own env σ) F' H'
  rel : Rel K w F' env1 σ1 H'
  os : ∀ a, Own env1 σ1 a → Own env σ a ∨ H a = none
theorem Stp.q (a : Stp K w F env σ H env1 F' H') : Stq K w F env σ H env1 σ F' H' := ⟨a.mv, a.rel, fun c h => .inl (a.os c h)⟩
theorem Stq.refl (r : Rel K w F env σ H) : Stq K w F env σ H env σ F H := (Stp.refl r).q
theorem Mv.none (a : Mv F H (Own env σ) F1 H1) {c : Addr} (h : H1 c = none) : H c = none := by
  cases q : H c with
  | none => rfl
  | some o =>
    obtain ⟨o', e⟩ := a.dm c o q
    rw [h] at e; cases e
theorem Stq.trans (a : Stq K w F env σ H env1 σ1 F1 H1) (b : Stq K w F1 env1 σ1 H1 env2 σ2 F2 H2) : Stq K w F env σ H env2 σ2 F2 H2 :=
  ⟨a.mv.trans b.mv fun c h => a.os c h, b.rel, fun c h => by
    rcases b.os c h with z | z
    · exact a.os c z
    · exact .inr (a.mv.none z)⟩
/-- slots that keep what they hold -/
def Kept (kp : List Nat) (σ σ1 : L2.St) : Prop := ∀ i ∈ kp, σ1[i]? = σ[i]?
theorem Kept.refl {kp : List Nat} : Kept kp σ σ := fun _ _ => rfl
theorem Kept.trans {kp : List Nat} (a : Kept kp σ σ1) (b : Kept kp σ1 σ2) : Kept kp σ σ2 := fun i h => (b i h).trans (a i h)
theorem Kept.set {kp : List Nat} {v : Option V} (h : i ∉ kp) : Kept kp σ (σ.set i v) := fun j hj => List.getElem?_set_ne fun z => h (by rw [z]; exact hj)
/-- a value is stored in a slot -/
theorem EPost.store {s : Sl} {v : V} (r0 : Rel K w F env σ H) (h : EPost K w F env σ H s env1 v F' H') (hi : i < σ.length) : Stq K w F env σ H (env1.set i s) (σ.set i (some v)) F' H' := by
  have hi1 : i < env1.length := by rw [h.st.rel.len]; exact hi
  have own_back : ∀ j c, OwnI (env1.set i s) (σ.set i (some v)) j c → (j = i ∧ (∃ d, s = .ow d ∧ isMut d = true) ∧ v = .ref c) ∨ (j ≠ i ∧ OwnI env1 σ j c) := fun j c ⟨dj, ej, mj, sj⟩ => by
    by_cases hj : j = i
    · subst hj
      rw [List.getElem?_set_self hi1] at ej
      rw [List.getElem?_set_self hi] at sj
      cases ej
      cases sj
      exact .inl ⟨rfl, ⟨dj, rfl, mj⟩, rfl⟩
    · rw [List.getElem?_set_ne (Ne.symm hj)] at ej sj
      exact .inr ⟨hj, dj, ej, mj, sj⟩
  refine ⟨h.st.mv, ⟨h.st.rel.sub, by rw [List.length_set, List.length_set]; exact h.st.rel.len, fun j sj ej => ?_, fun j k c h1 h2 => ?_⟩, fun c ⟨j, h1⟩ => ?_⟩
  · by_cases hj : j = i
    · subst hj
      rw [List.getElem?_set_self hi1] at ej
      cases ej
      exact .inr ⟨v, List.getElem?_set_self hi, h.val⟩
    · rw [List.getElem?_set_ne (Ne.symm hj)] at ej
      rw [List.getElem?_set_ne (Ne.symm hj)]
      exact h.st.rel.slot j sj ej
  · have no : ∀ k d, s = .ow d → isMut d = true → v = .ref c → OwnI env1 σ k c → False := fun k d e m ev ho => by
      obtain ⟨_, o, q⟩ := r0.own (h.st.os c ⟨k, ho⟩)
      rw [h.new d c e m ev] at q
      cases q
    rcases own_back j c h1 with ⟨e1, ⟨d1, e2, m1⟩, ev1⟩ | ⟨n1, o1⟩
    · rcases own_back k c h2 with ⟨e3, _, _⟩ | ⟨n2, o2⟩
      · rw [e1, e3]
      · exact (no k d1 e2 m1 ev1 o2).elim
    · rcases own_back k c h2 with ⟨e3, ⟨d2, e4, m2⟩, ev2⟩ | ⟨n2, o2⟩
      · exact (no j d2 e4 m2 ev2 o1).elim
      · exact h.st.rel.apart j k c o1 o2
  · rcases own_back j c h1 with ⟨_, ⟨d1, e2, m1⟩, ev1⟩ | ⟨_, o1⟩
    · exact .inr (h.new d1 c e2 m1 ev1)
    · exact .inl (h.st.os c ⟨j, o1⟩)
/-- .. a frozen one -/
theorem Rel.put (r : Rel K w F env σ H) {v : V} (h : Rv K w F v d) (hi : i < σ.length) : Stq K w F env σ H (env.set i (.fz d)) (σ.set i (some v)) F H :=
  EPost.store r (s := .fz d) ⟨Stp.refl r, h, fun _ _ e => nomatch e⟩ hi
theorem EPost.thaw {s : Sl} {v : V} (r0 : Rel K w F env σ H) (h : EPost K w F env σ H s env1 v F' H') : ∃ F2, EPost K w F env σ H s.thaw env1 v F2 H' := by
  cases s with
  | emp => exact ⟨F', h⟩
  | fz d => exact ⟨F', h⟩
  | ow d =>
    obtain ⟨F2, f⟩ := h.freeze r0
    exact ⟨F2, f.st, f.val, fun _ _ e => nomatch e⟩
end
end Ky
end

section
set_option autoImplicit false
set_option linter.all false
set_option maxRecDepth 100000
set_option Elab.async false
/-! What changes an own list or dict. -/
namespace Ky
open PySem PySem.Spec L2
open PyProof.Rows hiding St
section
variable (K : PySem.W.Frag) (w : World)
inductive RvAll (F : Hp) : List V → List D → Prop
  | nil : RvAll F [] []
  | cons {v : V} {d : D} {vs : List V} {ds : List D} : Rv K w F v d → RvAll F vs ds → RvAll F (v :: vs) (d :: ds)
/-- written arguments, one after another, all frozen -/
def tEs (ev : En → Option (List D × En)) : TA := fun σ H Q => ∃ F env ds env1, Rel K w F env σ H ∧ ev env = some (ds, env1) ∧ ∀ vs F' H', Stp K w F env σ H env1 F' H' → RvAll K w F' vs ds → Q vs H'
end
section
variable {K : PySem.W.Frag} {w : World} {F F' F1 F2 H H' H1 H2 : Hp} {env env1 env2 : En} {σ : L2.St} {X : Cx} {e : Expr} {es : List Expr}
theorem RvAll.mono (s : Same F F') : ∀ {vs : List V} {ds : List D}, RvAll K w F vs ds → RvAll K w F' vs ds
  | _, _, .nil => .nil
  | _, _, .cons h t => .cons (h.mono s) (RvAll.mono s t)
theorem RvAll.length : ∀ {vs : List V} {ds : List D}, RvAll K w F vs ds → vs.length = ds.length
  | _, _, .nil => rfl
  | _, _, .cons _ t => by simp [RvAll.length t]
theorem Rv.dp {v : V} {d : D} (h : Rv K w F v d) (n : noDict d = true) : Dp K F v d := by
  cases h with
  | dat h => exact h
  | dic => cases n
theorem RvAll.dps : ∀ {vs : List V} {ds : List D}, RvAll K w F vs ds → ds.all noDict = true → DpAll K F vs ds
  | _, _, .nil, _ => .nil
  | _, _, .cons h t, n => by
    rw [List.all_cons, Bool.and_eq_true] at n
    exact .cons (h.dp n.1) (RvAll.dps t n.2)
theorem es_nil : PA X [] (tEs X.K X.w fun env => some ([], env)) := pa_nil.weak fun σ H Q ⟨F, env, ds, env1, r, q, k⟩ => by
  cases q
  exact k [] F H (Stp.refl r) .nil
theorem es_cons {ev : En → Option (Sl × En)} {evs : En → Option (List D × En)} (he : PE X e (tO X.K X.w ev)) (hr : PA X es (tEs X.K X.w evs)) (hs : starEach (e :: es) X.env = (false, eval e X.env) :: starEach es X.env) :
    PA X (e :: es) (tEs X.K X.w fun env => (ev env).bind fun x => (evs x.2).map fun y => (x.1.dat :: y.1, y.2)) := (pa_cons (PE.frz he) hr hs).weak fun σ H Q ⟨F, env, ds, env1, r, q, k⟩ => by
  obtain ⟨x, e1, q⟩ := Option.bind_eq_some_iff.mp q
  obtain ⟨y, e2, z⟩ := Option.map_eq_some_iff.mp q
  cases z
  exact ⟨F, env, x.1, x.2, r, e1, fun v F' H' f => ⟨F', x.2, y.1, y.2, f.st.rel, e2, fun vs F2 H2 st2 rv2 => k (v :: vs) F2 H2 (f.st.trans st2) (.cons (f.val.mono st2.mv.ff) rv2)⟩⟩

/-! the own list at a slot -/
theorem Rel.ownL {i : Nat} {xs : List D} (r : Rel K w F env σ H) (e : env[i]? = some (.ow (.list xs))) : ∃ a vs, OwnI env σ i a ∧ σ[i]? = some (some (.ref a)) ∧ H a = some (.lst vs) ∧ DpAll K F vs xs ∧ vs.length ≤ SL := by
  obtain ⟨a, o, ho, hF, hH, ob⟩ := r.ownI e rfl
  cases ob with
  | lst h1 h2 =>
    obtain ⟨_, _, _, s0⟩ := id ho
    exact ⟨a, _, ho, s0, hH, h1, h2⟩
theorem Rel.ownD {i : Nat} {kvs : List (D × D)} (r : Rel K w F env σ H) (e : env[i]? = some (.ow (.dict kvs))) : ∃ a o, OwnI env σ i a ∧ σ[i]? = some (some (.ref a)) ∧ H a = some (RawO a o) ∧ DicR K w F o kvs := by
  obtain ⟨a, o, ho, hF, hH, ob⟩ := r.ownI e rfl
  cases ob with
  | dic h1 =>
    obtain ⟨_, _, _, s0⟩ := id ho
    exact ⟨a, _, ho, s0, hH, h1⟩
def evMut (m : Mu) (i : Nat) (evs : En → Option (List D × En)) : En → Option (Sl × En) := fun env => (preM m env[i]?).bind fun _ => (evs env).bind fun x => match x.2[i]? with
  | some (.ow d) => (fM m d x.1).map fun r => (.fz r.2, x.2.set i (.ow r.1))
  | _ => none
/-- the parts of it -/
theorem evMut_some {m : Mu} {i : Nat} {evs : En → Option (List D × En)} {s : Sl} (h : evMut m i evs env = some (s, env1)) :
    ∃ ds env2 d d' c, preM m env[i]? = some () ∧ evs env = some (ds, env2) ∧ env2[i]? = some (.ow d) ∧ fM m d ds = some (d', c) ∧ s = .fz c ∧ env1 = env2.set i (.ow d') := by
  obtain ⟨_, e0, h⟩ := Option.bind_eq_some_iff.mp h
  obtain ⟨x, e1, h⟩ := Option.bind_eq_some_iff.mp h
  split at h
  · rename_i d e2
    obtain ⟨r, e3, z⟩ := Option.map_eq_some_iff.mp h
    cases z
    exact ⟨x.1, x.2, d, r.1, r.2, e0, e1, e2, e3, rfl, rfl⟩
  · cases h
theorem preM_list {m : Mu} {o : Option Sl} (hm : m = .append ∨ m = .pop ∨ m = .extend) (h : preM m o = some ()) : ∃ xs, o = some (.ow (.list xs)) := by
  rcases hm with e | e | e <;> subst e <;> (unfold preM at h; split at h <;> first | exact ⟨_, rfl⟩ | contradiction)
theorem preM_dict {m : Mu} {o : Option Sl} (hm : m = .popK ∨ m = .update) (h : preM m o = some ()) : ∃ xs, o = some (.ow (.dict xs)) := by
  rcases hm with e | e <;> subst e <;> (unfold preM at h; split at h <;> first | exact ⟨_, rfl⟩ | contradiction)

/-- x.append(e) -/
theorem e_append {i : Nat} {x : Expr} {evs : En → Option (List D × En)} {apos cpos : Pos} (hx : PE X x (tVar i)) (ha : PA X [e] (tEs X.K X.w evs))
    (hbase : attributeBase x "append" X.env (eval x X.env) = eval x X.env)
    (hfew : ((backTo cpos (starEach [e] X.env)).all (fun x => !x.1) && (backToKw cpos (keywordEach [] X.env)).all (fun x => x.1.isSome) && decide ([e].length + ([] : List Keyword).length + (if ([] : List Keyword).isEmpty then 0 else 1) < 30)) = true)
    (hline : (apos.endLine == cpos.line) = true) (hs : starEach [e] X.env = (false, eval e X.env) :: starEach [] X.env) :
    PE X (.Call (.Attribute x "append" apos) [e] [] cpos) (tO X.K X.w (evMut .append i evs)) :=
  (pe_bm PySem.F.plainAttrs_list slot_list_append PySem.F.type_list_append (mt_append (X := X)) hx ha hbase hfew hline hs rfl).weak fun σ H Q ⟨F, env, s, env1, r, q, k⟩ => by
    obtain ⟨ds, env2, d, d', c, e0, e1, e2, e3, es, ee⟩ := evMut_some q
    subst es ee
    obtain ⟨xs0, ex0⟩ := preM_list (.inl rfl) e0
    obtain ⟨a, vs0, ho0, s0, hH0, _, _⟩ := r.ownL ex0
    refine ⟨.ref a, s0, .inl ⟨rfl, vs0, SqL.of hH0⟩, F, env, ds, env2, r, e1, fun vs F' H' st rv => ?_⟩
    cases d <;> first | (simp only [fM, reduceCtorEq] at e3; done) | skip
    case list xs =>
      obtain ⟨a', vs1, ho1, s1, hH1, dp1, l1⟩ := st.rel.ownL e2
      rw [s0] at s1
      cases s1
      cases rv with
      | nil => simp only [fM, reduceCtorEq] at e3
      | cons h t =>
        cases t with
        | cons _ _ => simp only [fM, reduceCtorEq] at e3
        | nil =>
          simp only [fM, Option.ite_none_right_eq_some, Bool.and_eq_true, decide_eq_true_eq, Option.some.injEq, Prod.mk.injEq] at e3
          obtain ⟨⟨hn, hl⟩, ed, ec⟩ := e3
          subst ed ec
          have hl' : vs1.length < sizeLine := by rw [dp1.length, ← SL_eq]; exact hl
          refine ⟨a, vs1, _, rfl, rfl, hH1, hl', k _ F' _ ⟨st.trans (Stp.mut st.rel ho1 rfl (.lst (dp1.append (.cons (h.dp hn) .nil)) ?_)), .none, fun _ _ z => nomatch z⟩⟩
          rw [List.length_append, List.length_singleton, SL_eq]
          omega
end
end Ky
end

section
set_option autoImplicit false
set_option linter.all false
set_option maxRecDepth 100000
set_option Elab.async false
/-! Items set in own lists and dicts. -/
namespace Ky
open PySem PySem.Spec L2
open PyProof.Rows hiding St
section
variable {K : PySem.W.Frag} {w : World} {F F' F1 F2 H H' H1 H2 : Hp} {env env1 env2 : En} {σ : L2.St} {X : Cx} {pins : List (Addr × Obj)} {s : Shared} {kk : Nat}
/-- the entries, item by item -/
theorem Ent.atKey {k : D} (hk : keyable k = true) : ∀ {xs : List (NestedKey × Addr × Value)} {kvs : List (D × D)}, Ent K F xs kvs → (PySem.atKey xs (nk k)).isSome = dhas kvs k
  | _, _, .nil => rfl
  | _, _, .cons (k := k') (xs := xs) (kvs := kvs) h1 h2 h3 h4 t => by
    have e := nk_same h1 hk
    have ih := Ent.atKey hk t
    cases he : PyData.eqv k' k with
    | true =>
      rw [he, decide_eq_true_eq] at e
      simp [PySem.atKey, dhas, he, e]
    | false =>
      rw [he, decide_eq_false_iff_not] at e
      simp only [PySem.atKey, dhas, List.find?_cons, e, decide_false, List.any_cons, he, Bool.false_or] at ih ⊢
      exact ih
theorem Ent.append : ∀ {xs ys : List (NestedKey × Addr × Value)} {kvs lvs : List (D × D)}, Ent K F xs kvs → Ent K F ys lvs → Ent K F (xs ++ ys) (kvs ++ lvs)
  | _, _, _, _, .nil, h => h
  | _, _, _, _, .cons h1 h2 h3 h4 t, h => .cons h1 h2 h3 h4 (Ent.append t h)
theorem Ent.putMap {k d : D} {v : V} {u : Value} (hk : keyable k = true) (r : RelV v u) (h : Dp K F v d) : ∀ {xs : List (NestedKey × Addr × Value)} {kvs : List (D × D)}, Ent K F xs kvs → Ent K F (xs.map (putAt (nk k) u)) (kvs.map fun p => if PyData.eqv p.1 k then (p.1, d) else p)
  | _, _, .nil => .nil
  | _, _, .cons (k := k') (xs := xs) (kvs := kvs) h1 h2 h3 h4 t => by
    have e := nk_same h1 hk
    rw [List.map_cons, List.map_cons]
    cases he : PyData.eqv k' k with
    | true =>
      rw [he, decide_eq_true_eq] at e
      simp only [putAt, e, if_true, he]
      rw [← e]
      exact .cons h1 h2 r h (e ▸ Ent.putMap hk r h t)
    | false =>
      rw [he, decide_eq_false_iff_not] at e
      simp only [putAt, e, if_false, he, Bool.false_eq_true]
      exact .cons h1 h2 h3 h4 (Ent.putMap hk r h t)
theorem Ent.stored {k d : D} {v : V} {u : Value} {b : Addr} (hk : keyable k = true) (hb : Dp K F (.ref b) k) (r : RelV v u) (h : Dp K F v d) {xs : List (NestedKey × Addr × Value)} {kvs : List (D × D)} (t : Ent K F xs kvs) : Ent K F (storedH xs (nk k) b u) (dput kvs k d) := by
  unfold storedH dput
  rw [t.atKey hk]
  cases dhas kvs k with
  | true =>
    simp only [if_true]
    exact t.putMap hk r h
  | false =>
    simp only [Bool.false_eq_true, if_false]
    exact t.append (.cons hk hb r h .nil)
theorem dput_length (kvs : List (D × D)) (k d : D) : (dput kvs k d).length ≤ kvs.length + 1 := by
  unfold dput
  split <;> simp
/-- the dict's object, off its shape -/
theorem DicR.of {h : Heap} {a : Addr} {xs : List (NestedKey × Addr × Value)} {kvs : List (D × D)} {prog : Program} (x : h.DictOfH (nestedKind prog w) a xs) (t : Ent K F xs kvs) (l : kvs.length ≤ SL) : ∃ o, h.get? a = some o ∧ DicR K w F o kvs := by
  obtain ⟨o, es, ep, h1, h2, h3, h4, h5, h6⟩ := x
  exact ⟨o, h1, h2, ⟨es, ep, xs, h3, h4, h6, t⟩, l⟩
theorem room8' {A : Around} (hr : Room kk A) : A.units + 1 + 8 < cLine := by have := hr.un; omega
/-- a key's address -/
theorem Rv.key {k : D} {v : V} (hk : keyable k = true) (h : Rv K w F v k) : ∃ b, v = .ref b ∧ Dp K F (.ref b) k := by
  have nd : noDict k = true := by
    cases k <;> first | rfl | (simp [keyable, isTuple] at hk)
  have hd := h.dp nd
  cases k <;> simp only [keyable, isTuple, Bool.false_eq_true, Bool.false_and, false_and, and_false] at hk
  cases hd with
  | tup hs ha => exact ⟨_, rfl, .tup hs ha⟩
/-- o[i] = v, o an own object -/
def semSet (K : PySem.W.Frag) (w : World) : TSet := fun o i v H Q => ∃ F a ho d k dv d' c, o = .ref a ∧ Same F H ∧ F a = none ∧ H a = some ho ∧ ObR K w F a ho d ∧ Rv K w F i k ∧ Rv K w F v dv ∧ fM .set d [dv, k] = some (d', c) ∧ ∀ ho', ObR K w F a ho' d' → isMut d' = true → Q (upd H a ho')
theorem set_dict (hr : Room kk X.A) {i v : V} {iv u : Value} {Q : Hp → Prop} {a : Addr} {o : Obj} {kvs : List (D × D)} {k dv : D} (I : Inv X pins σ H s) (sub : Same F H) (hq : H a = some (RawO a o)) (hd : DicR X.K X.w F o kvs) (ri : RelV i iv) (rv : RelV v u)
    (hi : Rv X.K X.w F i k) (hv : Dp X.K F v dv) (hk : keyable k = true) (hl : kvs.length < SL) (q : ∀ ho', ObR X.K X.w F a ho' (.dict (dput kvs k dv)) → Q (upd H a ho')) :
    wpAny (model X.prog X.w) X.A (setItem (.ref a) iv u) (fun _ s' => ∃ H', Inv X pins σ H' s' ∧ Q H') X.xe s := by
  obtain ⟨b, ei, hb⟩ := hi.key hk
  subst ei
  cases ri
  obtain ⟨p1, p2, xs, hx, t⟩ := hd.at I sub hq
  have hsz : xs.length ≤ sizeLine := by rw [t.length, ← SL_eq]; omega
  refine wpAny_setItem_heap (hsz := hsz) (show (nestedKind X.prog X.w).room X.A.in1 from room8' hr) (keyable_is I hk (hb.mono sub)) hx fun h' hm sb => ?_
  have t' := t.stored hk hb rv hv
  obtain ⟨o', ho', hd'⟩ := DicR.of hm t' (by have := dput_length kvs k dv; omega)
  exact ⟨_, I.write (x := a) (e := a) (o := RawO a o') (by rw [hq]; exact trivial) (.inl rfl) (fun b' x hb' hx' => (sb.2 b' hb').trans hx') ⟨_, ho'⟩ (rawO_ok ho' p1), q _ (.dic hd')⟩
theorem ixPlace_ixN (n : Nat) (i : Int) : ixPlace n i = ixN n i := rfl
theorem r_set (hr : Room kk X.A) : PSet X (semSet X.K X.w) := fun pins s σ H o i v ov iv u Q I ro ri rv ⟨F, a, ho, d, k, dv, d', c, eo, sub, hF, hH, ob, hi, hv, ef, q⟩ => by
  subst eo
  cases ob with
  | lst dp l =>
    rename_i vs ds
    cases k <;> simp only [fM, reduceCtorEq, Option.ite_none_right_eq_some, Option.map_eq_some_iff, Prod.mk.injEq] at ef
    case int j =>
      obtain ⟨hn, p, hp, ed, ec⟩ := ef
      subst ed
      have ei : i = .int j := by
        have := hi.dp rfl
        cases this
        rfl
      rw [ixPlace_ixN, ← dp.length] at hp
      exact set_list pins s σ H (.ref a) i v ov iv u Q I ro ri rv ⟨a, vs, j, p, rfl, ei, hH, hp, q _ (.lst (dp.set p (hv.dp hn)) (by rw [List.length_set]; exact l)) rfl⟩
  | dic hd =>
    rename_i o kvs
    have ef : noDict dv = true ∧ keyable k = true ∧ kvs.length < SL ∧ .dict (dput kvs k dv) = d' := by
      cases k <;> simp only [fM, reduceCtorEq, Option.ite_none_right_eq_some, Option.some.injEq, Prod.mk.injEq, Bool.and_eq_true, decide_eq_true_eq] at ef <;> exact ⟨ef.1.1.1, ef.1.1.2, ef.1.2, ef.2.1⟩
    obtain ⟨hn, hk, hl, ed⟩ := ef
    subst ed
    cases ro
    exact set_dict hr I sub hH hd ri rv hi (hv.dp hn) hk hl fun ho' hob => q ho' hob rfl
end
end Ky
end

section
set_option autoImplicit false
set_option linter.all false
set_option maxRecDepth 100000
set_option Elab.async false
/-! What loops walk: lists, tuples, dicts, ranges. -/
namespace Ky
open PySem PySem.Spec L2
open PyProof.Rows hiding St
section
variable {K : PySem.W.Frag} {w : World} {F F' F0 F1 F2 H H' H1 H2 : Hp} {env env1 env2 : En} {σ : L2.St} {X : Cx} {pins : List (Addr × Obj)} {s : Shared} {kk : Nat} {tg e : Expr}
/-- the iteration gives these, whatever comes -/
structure ItOk (K : PySem.W.Frag) (F0 : Hp) (J : It) (xs : List D) : Prop where
  step : ∀ (F H : Hp) (i : Nat) (d : D), Same F0 F → Same F H → xs[i]? = some d → J.go i H ∧ ∀ x H', J.yld i H x H' → ∃ F', PExt F H F' H' ∧ Dp K F' x d
  stop : ∀ (F H : Hp), Same F0 F → Same F H → J.stop xs.length H
def tI (K : PySem.W.Frag) (w : World) (ev : En → Option (List D × En)) : TI := fun σ H R => ∃ F env xs env1, Rel K w F env σ H ∧ ev env = some (xs, env1) ∧ ∀ J F' H', Stp K w F env σ H env1 F' H' → ItOk K F' J xs → R J H'
theorem PI.weak {X : Cx} {tg e : Expr} {t t' : TI} (h : PI X tg e t) (k : ∀ σ H R, t' σ H R → t σ H R) : PI X tg e t' := ⟨fun pins s σ H R I q => h.run pins s σ H R I (k σ H R q)⟩

theorem itl_ok {a : Addr} {vs : List V} {ds : List D} (h : SqL K F0 a vs) (dp : DpAll K F0 vs ds) : ItOk K F0 (Itl K a) ds where
  step := fun F H i d s1 s2 e => by
    obtain ⟨v, hv, hp⟩ := dp.get e
    have hq : SqL K H a vs := (s1.trans s2).seq h
    refine ⟨⟨vs, v, hq, hv⟩, fun x H' ⟨e1, q⟩ => ?_⟩
    subst e1
    have := q vs hq
    rw [hv] at this
    cases this
    exact ⟨F, PExt.refl s2, hp.mono s1⟩
  stop := fun F H s1 s2 => ⟨vs, (s1.trans s2).seq h, Nat.le_of_eq dp.length⟩
theorem itt_ok {a : Addr} {vs : List V} {ds : List D} (h : SqT K F0 a vs) (dp : DpAll K F0 vs ds) : ItOk K F0 (Itt K a) ds where
  step := fun F H i d s1 s2 e => by
    obtain ⟨v, hv, hp⟩ := dp.get e
    have hq : SqT K H a vs := (s1.trans s2).seqT h
    refine ⟨⟨vs, v, hq, hv⟩, fun x H' ⟨e1, q⟩ => ?_⟩
    subst e1
    have := q vs hq
    rw [hv] at this
    cases this
    exact ⟨F, PExt.refl s2, hp.mono s1⟩
  stop := fun F H s1 s2 => ⟨vs, (s1.trans s2).seqT h, Nat.le_of_eq dp.length⟩
/-- the keys of a dict that stays as it is -/
def Itk' (a : Addr) (o : Obj) (vs : List V) : It := ⟨fun i H => H a = some (RawO a o) ∧ i < vs.length, fun i H x H' => H' = H ∧ vs[i]? = some x, fun i H => H a = some (RawO a o) ∧ vs.length ≤ i⟩
theorem itk_ok {a : Addr} {o : Obj} {vs : List V} {ds : List D} (h : F0 a = some (RawO a o)) (dp : DpAll K F0 vs ds) : ItOk K F0 (Itk' a o vs) ds where
  step := fun F H i d s1 s2 e => by
    obtain ⟨v, hv, hp⟩ := dp.get e
    refine ⟨⟨s2 _ _ (s1 _ _ h), (List.getElem?_eq_some_iff.mp hv).1⟩, fun x H' ⟨e1, q⟩ => ?_⟩
    subst e1
    rw [hv] at q
    cases q
    exact ⟨F, PExt.refl s2, hp.mono s1⟩
  stop := fun F H s1 s2 => ⟨s2 _ _ (s1 _ _ h), Nat.le_of_eq dp.length⟩
theorem turn_k {P : Program} {K : PySem.W.Frag} {tg : Expr} {a : Addr} {o : Obj} {es : Array DictEntry} {ep : Nat} {xs : List (NestedKey × Addr × Value)} (it : Addr) (hod : o.data = .dict es ep) (he : es.toList = xs.map (fun x => (⟨NestedKey.hash w x.1, .ref x.2.1, x.2.2⟩ : DictEntry))) :
    Turn P w K tg (Itk' a o (xs.map fun x => V.ref x.2.1)) [it] it (fun i h => h.IsKeyIter it a i es.size ep) where
  mem := by simp
  obj := fun i h st b hb => by
    have e : b = it := by simpa using hb
    subst e
    obtain ⟨oi, e, c, dd⟩ := st
    exact ⟨oi, e, fun v z => by rw [dd] at z; cases z⟩
  keep := fun i h h' st k => st.at fun oi e => k it (by simp) oi e
  item := by
    intro X hP hw hK hc i pins s σ H E I hf st hg
    subst hP hw hK
    obtain ⟨hd, hi⟩ := hg
    obtain ⟨f0, f1, f2, f3, f4, f5⟩ := hf it (by simp)
    obtain ⟨p, _, _⟩ := I.hok a _ hd
    have hl : es.size = xs.length := by
      have := congrArg List.length he
      simpa using this
    rw [List.length_map] at hi
    have hx : es[i]? = some ⟨NestedKey.hash X.w xs[i].1, .ref xs[i].2.1, xs[i].2.2⟩ := by
      rw [← Array.getElem?_toList, he, List.getElem?_map, List.getElem?_eq_getElem hi]
      rfl
    refine next_key_item st p.1 hod rfl hx fun h' st' sb => ?_
    have I1 : Inv X pins σ H { s with heap := h' } := I.turned (t' := s.toks) (fun b ob hb e => (sb.2 b hb).trans e) f0 f1 f3 f4 f5
    obtain ⟨oi, e, c, dd⟩ := id st'
    exact ⟨_, rfl, go_of (s := { s with heap := h' }) e c dd (by decide) ⟨.ref xs[i].2.1, H, I1, rfl, ⟨rfl, by rw [List.getElem?_map, List.getElem?_eq_getElem hi]; rfl⟩, st', fun b hb => (hf b hb).1⟩⟩
  done := by
    intro X hP hw hK hc i pins s σ H E I hf st hg
    subst hP hw hK
    obtain ⟨hd, hi⟩ := hg
    obtain ⟨f0, f1, f2, f3, f4, f5⟩ := hf it (by simp)
    obtain ⟨p, _, _⟩ := I.hok a _ hd
    have hl : es.size = xs.length := by
      have := congrArg List.length he
      simpa using this
    rw [List.length_map] at hi
    exact next_key_end (I.ok.hd hc) st p.1 hod rfl (by omega) fun h' eb => ⟨rfl, I.turned (t' := s.toks) (fun b ob hb e => eb b ob hb e) f0 f1 f3 f4 f5⟩
  self := fun A i s Q E st h => by
    refine wpAny_pyIter_slot st.typeIs PySem.F.slot_dict_keyiterator_iter (wpAny_call_entry PySem.F.slot_dict_keyiterator_iter st.typeIs PySem.F.entry_dict_keyiterator_iter ?_ (PySem.F.args_dict_keyiterator_iter_1 _))
    show wpAny _ _ (ret (.ref it)) _ _ s
    exact wpAny_pure ⟨_, rfl, "dict_keyiterator", _, st.typeIs, PySem.F.slot_dict_keyiterator_next.lookup, h⟩
/-- iter of a frozen value -/
theorem iter_of {R : It → Hp → Prop} {v : V} {u : Value} {d : D} {xs : List D} (I : Inv X pins σ H s) (sub : Same F H) (rx : RelV v u) (hv : Rv X.K X.w F v d) (e : itemsOf d = some xs) (ns : isStrD d = false) (q : ∀ J, ItOk X.K F J xs → R J H) :
    wpAny (model X.prog X.w) X.A (pyIter u) (PIE X pins σ tg R) X.xe s := by
  cases d <;> simp only [itemsOf, isStrD, reduceCtorEq, Option.some.injEq] at e ns
  case list ds =>
    subst e
    cases hv with
    | dat h1 =>
      cases h1 with
      | lst hs ha =>
        cases rx
        obtain ⟨its, rv, p, hz⟩ := I.list (sub.seq hs)
        exact wpAny_pyIter_list p.isList (pi_one (tk := s.toks) I _ (turn_list _ _) ⟨_, Heap.get?_push_size _ rfl, rfl, rfl⟩ (q _ (itl_ok hs ha)))
  case tuple ds =>
    subst e
    cases hv with
    | dat h1 =>
      cases h1 with
      | tup hs ha =>
        cases rx
        obtain ⟨its, rv, p, hz⟩ := I.tuple (sub.seqT hs)
        exact wpAny_pyIter_tuple p (pi_one (tk := s.toks) I _ (turn_tuple _ _) ⟨_, Heap.get?_push_size _ rfl, rfl, rfl⟩ (q _ (itt_ok hs ha)))
  case dict kvs =>
    subst e
    cases hv with
    | dat h1 => cases h1
    | dic h1 h2 =>
      cases rx
      obtain ⟨p, _, _⟩ := I.hok _ _ (sub _ _ h1)
      obtain ⟨es, ep, xs, hdat, he, hn, t⟩ := h2.es
      exact iter_keys p.2 p.1 h2.ex hdat (pi_one (tk := s.toks) I _ (turn_k _ hdat he) ⟨_, Heap.get?_push_size _ rfl, rfl, rfl⟩ (q _ (itk_ok h1 t.keys)))
theorem i_ex {ev : En → Option (Sl × En)} (he : PE X e (tO X.K X.w ev)) : PI X tg e (tI X.K X.w fun env => (ev env).bind fun x => (if isStrD x.1.dat then none else itemsOf x.1.dat).map fun xs => (xs, x.2)) := by
  refine ⟨fun pins s σ H R I ⟨F, env, xs, env1, r, q, k⟩ => ?_⟩
  obtain ⟨x, e1, q⟩ := Option.bind_eq_some_iff.mp q
  obtain ⟨ys, e2, z⟩ := Option.map_eq_some_iff.mp q
  cases z
  have ns : isStrD x.1.dat = false ∧ itemsOf x.1.dat = some xs := by
    split at e2
    · cases e2
    · rename_i h
      exact ⟨by simpa using h, e2⟩
  refine thn ((PE.frz he).run pins s σ H _ I ⟨F, env, x.1, x.2, r, e1, fun v F' H' f => (⟨F', f⟩ : ∃ F', FPost X.K X.w F env σ H x.1.dat x.2 v F' H')⟩) fun u s1 ⟨v, H1, I1, rv, F', f⟩ => ?_
  exact iter_of I1 f.st.rel.sub rv f.val ns.2 ns.1 fun J ok => k J F' H1 f.st ok
end
end Ky
end

section
set_option autoImplicit false
set_option linter.all false
set_option maxRecDepth 100000
set_option Elab.async false
/-! range, zip, enumerate. -/
namespace Ky
open PySem PySem.Spec L2
open PyProof.Rows hiding St
/-- what zip and enumerate walk: a list or a tuple -/
structure Sr where
  it : Heap → Addr → Addr → Nat → Prop
  has : Heap → Addr → Array Value → Prop
  sq : PySem.W.Frag → Hp → Addr → List V → Prop
  ob : Addr → Obj
  itObj : ∀ {h : Heap} {i a : Addr} {n : Nat}, it h i a n → ∃ o, h.get? i = some o ∧ ∀ v, o.data ≠ .cell v
  itKeep : ∀ {h h' : Heap} {i a : Addr} {n : Nat}, it h i a n → (∀ o, h.get? i = some o → h'.get? i = some o) → it h' i a n
  draws : ∀ {prog : Program} {w : World} {A : Around} (i a : Addr) (items : Array Value), A.handled = none → a ≠ i → Draws prog w A i [i, a] items.size (fun k v => items[k]? = some v) (fun k h => it h i a k ∧ has h a items)
  begins : ∀ (a : Addr) (items : Array Value), Begins (.ref a) (ob a) fun h => has h a items
  start : ∀ {h : Heap} {i a : Addr}, h.get? i = some (ob a) → it h i a 0
  inv : ∀ {X : Cx} {pins : List (Addr × Obj)} {σ : L2.St} {H : Hp} {s : Shared} {a : Addr} {xs : List V}, Inv X pins σ H s → sq X.K H a xs → ∃ its : List Value, Vals xs its ∧ has s.heap a its.toArray ∧ xs.length ≤ sizeLine
  lt : ∀ {h : Heap} {a : Addr} {items : Array Value}, has h a items → a < h.objs.size
  inj : ∀ {X : Cx} {pins : List (Addr × Obj)} {σ : L2.St} {H : Hp} {s : Shared} {a : Addr} {xs ys : List V}, Inv X pins σ H s → sq X.K H a xs → sq X.K H a ys → xs = ys
  apart : ∀ {h : Heap} {i a b : Addr} {n : Nat} {items : Array Value}, it h i b n → has h a items → a ≠ i
  same : ∀ {K : PySem.W.Frag} {H H' : Hp} {a : Addr} {xs : List V}, Same H H' → sq K H a xs → sq K H' a xs
def srL : Sr where
  it h i a n := h.IsListIter i a n
  has h a its := h.IsList a its
  sq K H a xs := SqL K H a xs
  ob a := { cls := .type "list_iterator", data := .fields #[.ref a, .int 0 0] }
  itObj := fun ⟨o, e, _, d⟩ => ⟨o, e, fun v z => by rw [d] at z; cases z⟩
  itKeep := fun x k => x.at fun o e => k o e
  draws i a items hh hne := Draws.list hh i a hne items
  begins a items := begins_list a items
  start := fun e => ⟨_, e, rfl, rfl⟩
  inv := fun I h => let ⟨its, rv, p, z⟩ := I.list h; ⟨its, rv, p.isList, z⟩
  lt := fun ⟨_, e, _⟩ => Heap.lt_size e
  inj := fun I a b => I.list_inj a b
  apart := fun ⟨_, e, c, _⟩ ⟨_, e2, c2, _⟩ z => by subst z; rw [e] at e2; cases e2; rw [c] at c2; injection c2 with c2; exact absurd c2 (by decide)
  same := fun s h => s.seq h
def srT : Sr where
  it h i a n := h.IsTupleIter i a n
  has h a its := h.IsTuple a its
  sq K H a xs := SqT K H a xs
  ob a := { cls := .type "tuple_iterator", data := .fields #[.ref a, .int 0 0] }
  itObj := fun ⟨o, e, _, d⟩ => ⟨o, e, fun v z => by rw [d] at z; cases z⟩
  itKeep := fun x k => x.at fun o e => k o e
  draws i a items hh hne := Draws.tuple hh i a hne items
  begins a items := begins_tuple a items
  start := fun e => ⟨_, e, rfl, rfl⟩
  inv := fun I h => let ⟨its, rv, p, z⟩ := I.tuple h; ⟨its, rv, p, z⟩
  lt := fun ⟨_, e, _⟩ => Heap.lt_size e
  inj := fun I a b => I.tuple_inj a b
  apart := fun ⟨_, e, c, _⟩ ⟨_, e2, c2, _⟩ z => by subst z; rw [e] at e2; cases e2; rw [c] at c2; injection c2 with c2; exact absurd c2 (by decide)
  same := fun s h => s.seqT h
theorem mem45 {c z TI TO i1 i2 : Addr} (m : c ∈ [z, TO, i1, i2]) : c ∈ [z, TI, TO, i1, i2] := by
  simp only [List.mem_cons, List.not_mem_nil, or_false] at m ⊢
  rcases m with e | e | e | e <;> simp [e]
section
variable {K : PySem.W.Frag} {w : World} {F F' F0 F1 F2 H H' H1 H2 : Hp} {env env1 env2 : En} {σ : L2.St} {X : Cx} {pins : List (Addr × Obj)} {s : Shared} {kk : Nat} {tg e : Expr}
def ItzS (S1 S2 : Sr) (K : PySem.W.Frag) (a b : Addr) : It :=
  ⟨fun i H => ∃ (xs ys : List V) (x y : V), S1.sq K H a xs ∧ S2.sq K H b ys ∧ xs[i]? = some x ∧ ys[i]? = some y,
    fun i H v H' => ∃ T x y, v = .ref T ∧ H T = none ∧ H' = upd H T (.tup [x, y]) ∧ (∀ xs, S1.sq K H a xs → xs[i]? = some x) ∧ ∀ ys, S2.sq K H b ys → ys[i]? = some y,
    fun i H => ∃ xs ys : List V, S1.sq K H a xs ∧ S2.sq K H b ys ∧ (xs.length = i ∧ i ≤ ys.length ∨ ys.length = i ∧ i ≤ xs.length)⟩
theorem turn_zipS {P : Program} {S1 S2 : Sr} {elts : List Expr} {k1 : Nat} {tpos : Pos} {a b z TI TO i1 i2 : Addr} (D : ZipSep2 z TI TO i1 i2 [i1, a] [i2, b]) :
    Turn P w K (.Tuple elts k1 tpos) (ItzS S1 S2 K a b) [z, TI, TO, i1, i2] z (fun i h => IsZip h z TI TO .none ∧ IsTupOf2 h TI (.ref i1) (.ref i2) ∧ (∃ x y, IsTupOf2 h TO x y) ∧ S1.it h i1 a i ∧ S2.it h i2 b i) where
  mem := by simp
  obj := fun i h st c hc => by
    obtain ⟨hz, hTI, ⟨x, y, hTO⟩, h1, h2⟩ := st
    have e' : c = z ∨ c = TI ∨ c = TO ∨ c = i1 ∨ c = i2 := by simpa using hc
    rcases e' with q | q | q | q | q
    · rw [q]; exact ⟨_, hz, fun v q => nomatch q⟩
    · rw [q]; exact ⟨_, hTI, fun v q => nomatch q⟩
    · rw [q]; exact ⟨_, hTO, fun v q => nomatch q⟩
    · rw [q]; exact S1.itObj h1
    · rw [q]; exact S2.itObj h2
  keep := fun i h h' st k => by
    obtain ⟨hz, hTI, ⟨x, y, hTO⟩, h1, h2⟩ := st
    exact ⟨k z (by simp) _ hz, k TI (by simp) _ hTI, ⟨x, y, k TO (by simp) _ hTO⟩, S1.itKeep h1 fun o q => k i1 (by simp) o q, S2.itKeep h2 fun o q => k i2 (by simp) o q⟩
  item := by
    intro X hP hw hK hc i pins s σ H E I hf st hg
    subst hP hw hK
    obtain ⟨xs, ys, x, y, hqx, hqy, hx, hy⟩ := hg
    obtain ⟨its, rv, p, _⟩ := S1.inv I hqx
    obtain ⟨its2, rv2, p2, _⟩ := S2.inv I hqy
    obtain ⟨u, hu, ru⟩ := rv.get hx
    obtain ⟨u2, hu2, ru2⟩ := rv2.get hy
    have hna : a ≠ i1 := S1.apart st.2.2.2.1 p
    have hnb : b ≠ i2 := S2.apart st.2.2.2.2 p2
    have W := WalksT.zipD2 (prog := X.prog) (w := X.w) (A := X.A) D (S1.draws i1 a its.toArray (I.ok.hd hc) hna) (S2.draws i2 b its2.toArray (I.ok.hd hc) hnb)
    obtain ⟨hz, hTI, hTO, st1, st2⟩ := st
    have lt1 : i < its.length := (List.getElem?_eq_some_iff.mp hu).1
    have lt2 : i < its2.length := (List.getElem?_eq_some_iff.mp hu2).1
    have hzl : z < s.heap.objs.size := Heap.lt_size hz
    have ltf : ∀ c ∈ [z, TI, TO, i1, i2], c < s.heap.objs.size := fun c hcm => by
      have e' : c = z ∨ c = TI ∨ c = TO ∨ c = i1 ∨ c = i2 := by simpa using hcm
      rcases e' with q | q | q | q | q
      · rw [q]; exact hzl
      · rw [q]; exact Heap.lt_size hTI
      · rw [q]; obtain ⟨_, _, q2⟩ := hTO; exact Heap.lt_size q2
      · rw [q]; obtain ⟨_, q2, _⟩ := S1.itObj st1; exact Heap.lt_size q2
      · rw [q]; obtain ⟨_, q2, _⟩ := S2.itObj st2; exact Heap.lt_size q2
    refine W.item i s _ _ (by simp; omega) ⟨hz, hTI, hTO, ⟨st1, p⟩, ⟨st2, p2⟩⟩ fun T vals h' tk ⟨x1, x2, e1, e2, ev⟩ hge hT mid k1 => ?_
    have hTw := W.apart _ _ _ mid
    refine ⟨_, rfl, W.go elts _ tpos i T { s with heap := h', toks := tk } _ _ mid fun h'' st' k2 => ?_⟩
    have ex1 : x1 = u := by
      have : its.toArray[i]? = some x1 := e1
      rw [List.getElem?_toArray, hu] at this
      exact (Option.some.inj this).symm
    have ex2 : x2 = u2 := by
      have : its2.toArray[i]? = some x2 := e2
      rw [List.getElem?_toArray, hu2] at this
      exact (Option.some.inj this).symm
    subst ex1 ex2 ev
    have hT2 : h''.IsTuple T #[x1, x2] := hT.at fun o q => k2 T o hTw q
    have new : ObjOk X.prog X.w (upd H T (.tup [x, y])) h'' T (.tup [x, y]) := ⟨by show 2 ≤ sizeLine; decide, [x1, x2], .cons ru (.cons ru2 .nil), hT2⟩
    have I1 : Inv X pins σ (upd H T (.tup [x, y])) { s with heap := h'', toks := tk } :=
      I.turnedNew (t' := tk) (ch := [z, TI, TO, i1, i2]) (fun c o hb q => (k2 c o (fun m => hb (mem45 m)) (k1 c o (fun m => hb (mem45 m)) q) : h''.get? c = some o)) hf hge new
    refine ⟨.ref T, _, I1, rfl, ⟨T, x, y, rfl, I.hok.fresh hge, rfl, fun l hl => by rw [S1.inj I hl hqx]; exact hx, fun l hl => by rw [S2.inj I hl hqy]; exact hy⟩, ⟨st'.1, st'.2.1, st'.2.2.1, st'.2.2.2.1.1, st'.2.2.2.2.1⟩, fun c hcm => ?_⟩
    rw [upd_ne (Nat.ne_of_lt (Nat.lt_of_lt_of_le (ltf c hcm) hge))]
    exact (hf c hcm).1
  done := by
    intro X hP hw hK hc i pins s σ H E I hf st hg
    subst hP hw hK
    obtain ⟨xs, ys, hqx, hqy, hend⟩ := hg
    obtain ⟨its, rv, p, _⟩ := S1.inv I hqx
    obtain ⟨its2, rv2, p2, _⟩ := S2.inv I hqy
    have l1 := rv.length
    have l2 := rv2.length
    have hna : a ≠ i1 := S1.apart st.2.2.2.1 p
    have hnb : b ≠ i2 := S2.apart st.2.2.2.2 p2
    have W := WalksT.zipD2 (prog := X.prog) (w := X.w) (A := X.A) D (S1.draws i1 a its.toArray (I.ok.hd hc) hna) (S2.draws i2 b its2.toArray (I.ok.hd hc) hnb)
    obtain ⟨hz, hTI, hTO, st1, st2⟩ := st
    have ei : min its.toArray.size its2.toArray.size = i := by simp; omega
    refine W.done s _ _ (by rw [ei]; exact ⟨hz, hTI, hTO, ⟨st1, p⟩, ⟨st2, p2⟩⟩) fun h' tk k1 => ⟨rfl, I.turnedL (t' := tk) (ch := [z, TI, TO, i1, i2]) (fun c o hb q => k1 c o (fun m => hb (mem45 m)) q) hf⟩
  self := fun A i s Q E st h => wpAny_pyIter_zip st.1 h
end
end Ky
end

section
set_option autoImplicit false
set_option linter.all false
set_option maxRecDepth 100000
set_option Elab.async false
/-! enumerate; the walks of zip, enumerate, range. -/
namespace Ky
open PySem PySem.Spec L2
open PyProof.Rows hiding St
set_option maxHeartbeats 2000000 in
theorem meets_enum1 {v : Value} {o : Obj} {H : Heap → Prop} (B : Begins v o H) :
    Meets (Builtin.«enumerate.__new__» ⟨[.type "enumerate", v], []⟩) (fun _ R s => H s.heap ∧
      R (.ok (.ret (.ref (s.heap.push o).objs.size))) { s with heap := (s.heap.push o).push { cls := .type "enumerate", data := .fields #[.none, .bool false, .ref s.heap.objs.size, rawInt 0, .none, .none] } }) :=
  .of_wp fun prog w A R s h => by
    obtain ⟨hp, g, d, tk, os⟩ := s; obtain ⟨h1, h⟩ := h
    have hsub := sub_enumerate
    have q1 : ∀ {A' : Around} {E : Value → Shared → Prop} {Q : Value → Shared → Prop}, Q (.ref hp.objs.size) ⟨hp.push o, g, d, tk, os⟩ → wpAny (model prog w) A' (pyIter v) Q E ⟨hp, g, d, tk, os⟩ :=
      fun q => B.iter prog w _ _ ⟨hp, g, d, tk, os⟩ _ h1 q
    wp_walk using q1
    refine wpAny_stack_any fun st => wpAny_pure ?_
    split
    · rename_i c _ _ _ _ _
      cases (c == Value.type "enumerate")
      · wp_walk using q1
        exact ⟨_, rfl, h⟩
      · wp_walk using q1
        exact ⟨_, rfl, h⟩
    · wp_walk using q1
      exact ⟨_, rfl, h⟩
section
variable {prog : Program} {w : World} {A : Around} {E : Value → Shared → Prop} {s : Shared}
theorem enum_begins1 {v : Value} {o : Obj} {H : Heap → Prop} {Q : Value → Shared → Prop} (B : Begins v o H) (h1 : H s.heap)
    (h : ∀ h', IsEnum h' (s.heap.objs.size + 1) s.heap.objs.size 0 .none → h'.get? s.heap.objs.size = some o → h'.objs.size = s.heap.objs.size + 2 →
      (∀ b o, s.heap.get? b = some o → h'.get? b = some o) → Q (.ref (s.heap.objs.size + 1)) { s with heap := h' }) :
    wpAny (model prog w) A (call (.type "enumerate") [v]) Q E s := by
  refine callType_new PySem.F.called_enumerate (by decide) (PySem.F.typeCall_enumerate_1 _) (PySem.F.newCall_enumerate_1 _) (fun obj => PySem.F.args_object_init_2 obj _) PySem.F.entry_enumerate_new
    (meets_enum1 B) ⟨h1, ?_⟩
  have hz : (s.heap.push o).objs.size = s.heap.objs.size + 1 := Heap.size_push ..
  show _ ∧ _
  rw [hz]
  have he : IsEnum ((s.heap.push o).push { cls := .type "enumerate", data := .fields #[.none, .bool false, .ref s.heap.objs.size, rawInt 0, .none, .none] }) (s.heap.objs.size + 1) s.heap.objs.size 0 .none := by
    have := Heap.get?_push_size (s.heap.push o) (o := { cls := .type "enumerate", data := .fields #[.none, .bool false, .ref s.heap.objs.size, rawInt 0, .none, .none] }) rfl
    rw [hz] at this; exact this
  refine ⟨⟨_, he, rfl⟩, h _ he (Heap.get?_push_of_some _ (Heap.get?_push_size _ B.free)) (by rw [Heap.size_push, hz]) fun b o x => Heap.get?_push_of_some _ (Heap.get?_push_of_some _ x)⟩
end
section
variable {K : PySem.W.Frag} {w : World} {F F' F0 F1 F2 H H' H1 H2 : Hp} {env env1 env2 : En} {σ : L2.St} {X : Cx} {pins : List (Addr × Obj)} {s : Shared} {kk : Nat} {tg e e2 : Expr}
def IteS (S : Sr) (K : PySem.W.Frag) (a : Addr) : It :=
  ⟨fun i H => ∃ (xs : List V) (x : V), S.sq K H a xs ∧ xs[i]? = some x, fun i H v H' => ∃ T x, v = .ref T ∧ H T = none ∧ H' = upd H T (.tup [.int (i : Nat), x]) ∧ ∀ xs, S.sq K H a xs → xs[i]? = some x, fun i H => ∃ xs : List V, S.sq K H a xs ∧ xs.length = i⟩
theorem turn_enumS {P : Program} {S : Sr} {elts : List Expr} {k1 : Nat} {tpos : Pos} {a en it : Addr} (hei : en ≠ it) (hea : en ≠ a) :
    Turn P w K (.Tuple elts k1 tpos) (IteS S K a) [en, it] en (fun i h => (∃ old, IsEnum h en it (0 + (i : Int)) old) ∧ S.it h it a i) where
  mem := by simp
  obj := fun i h st b hb => by
    obtain ⟨⟨old, he⟩, h1⟩ := st
    have e' : b = en ∨ b = it := by simpa using hb
    rcases e' with z | z
    · rw [z]; exact ⟨_, he, fun v q => nomatch q⟩
    · rw [z]; exact S.itObj h1
  keep := fun i h h' st k => let ⟨⟨old, he⟩, hi⟩ := st; ⟨⟨old, k en (by simp) _ he⟩, S.itKeep hi fun o q => k it (by simp) o q⟩
  item := by
    intro X hP hw hK hc i pins s σ H E I hf st hg
    subst hP hw hK
    obtain ⟨xs, x, hqx, hx⟩ := hg
    obtain ⟨its, rv, p, hsz⟩ := S.inv I hqx
    obtain ⟨u, hu, ru⟩ := rv.get hx
    have hna : a ≠ it := S.apart st.2 p
    have W := WalksT.enumFrom (prog := X.prog) (w := X.w) (A := X.A) 0 (S.draws it a its.toArray (I.ok.hd hc) hna) en hei (by simp only [List.mem_cons, List.not_mem_nil, or_false, not_or]; exact ⟨hei, hea⟩) (by simp)
    obtain ⟨he, st1⟩ := st
    have lt1 : i < its.length := (List.getElem?_eq_some_iff.mp hu).1
    have ltf : ∀ c ∈ [en, it], c < s.heap.objs.size := fun c hcm => by
      have e' : c = en ∨ c = it := by simpa using hcm
      rcases e' with q | q
      · rw [q]; obtain ⟨_, q2⟩ := he; exact Heap.lt_size q2
      · rw [q]; obtain ⟨_, q2, _⟩ := S.itObj st1; exact Heap.lt_size q2
    refine W.item i s _ _ (by simp; omega) ⟨he, ⟨st1, p⟩⟩ fun T vals h' tk ⟨t, x1, e1, ev⟩ hge hT mid k1 => ?_
    have hTw := W.apart _ _ _ mid
    refine ⟨_, rfl, W.go elts _ tpos i T { s with heap := h', toks := tk } _ _ mid fun h'' st' k2 => ?_⟩
    have ex1 : x1 = u := by
      have : its.toArray[i]? = some x1 := e1
      rw [List.getElem?_toArray, hu] at this
      exact (Option.some.inj this).symm
    subst ex1 ev
    have hT2 : h''.IsTuple T #[.int (0 + (i : Int)) t, x1] := hT.at fun o q => k2 T o hTw q
    have new : ObjOk X.prog X.w (upd H T (.tup [.int (i : Nat), x])) h'' T (.tup [.int (i : Nat), x]) := ⟨by show 2 ≤ sizeLine; decide, [.int (0 + (i : Int)) t, x1], .cons ⟨t, by rw [Int.zero_add]⟩ (.cons ru .nil), hT2⟩
    have I1 : Inv X pins σ (upd H T (.tup [.int (i : Nat), x])) { s with heap := h'', toks := tk } :=
      I.turnedNew (t' := tk) (ch := [en, it]) (fun c o hb q => (k2 c o hb (k1 c o hb q) : h''.get? c = some o)) hf hge new
    refine ⟨.ref T, _, I1, rfl, ⟨T, x, rfl, I.hok.fresh hge, rfl, fun l hl => by rw [S.inj I hl hqx]; exact hx⟩, ⟨st'.1, st'.2.1⟩, fun c hcm => ?_⟩
    rw [upd_ne (Nat.ne_of_lt (Nat.lt_of_lt_of_le (ltf c hcm) hge))]
    exact (hf c hcm).1
  done := by
    intro X hP hw hK hc i pins s σ H E I hf st hg
    subst hP hw hK
    obtain ⟨xs, hqx, hend⟩ := hg
    obtain ⟨its, rv, p, _⟩ := S.inv I hqx
    have l1 := rv.length
    have hna : a ≠ it := S.apart st.2 p
    have W := WalksT.enumFrom (prog := X.prog) (w := X.w) (A := X.A) 0 (S.draws it a its.toArray (I.ok.hd hc) hna) en hei (by simp only [List.mem_cons, List.not_mem_nil, or_false, not_or]; exact ⟨hei, hea⟩) (by simp)
    obtain ⟨he, st1⟩ := st
    have ei : its.toArray.size = i := by simp; omega
    refine W.done s _ _ (by rw [ei]; exact ⟨he, ⟨st1, p⟩⟩) fun h' tk k1 => ⟨rfl, I.turnedL (t' := tk) (ch := [en, it]) (fun c o hb q => k1 c o hb q) hf⟩
  self := fun A i s Q E st h => let ⟨⟨_, he⟩, _⟩ := st; wpAny_pyIter_enum he h

/-! as data -/
theorem src_of {v : V} {d : D} {xs : List D} (h : Rv K w F v d) (e : srcOf d = some xs) : ∃ (S : Sr) (a : Addr) (vs : List V), v = .ref a ∧ S.sq K F a vs ∧ DpAll K F vs xs := by
  cases d <;> simp only [srcOf, reduceCtorEq, Option.some.injEq] at e
  case list ds =>
    subst e
    cases h with
    | dat h1 => cases h1 with
      | lst hs ha => exact ⟨srL, _, _, rfl, hs, ha⟩
  case tuple ds =>
    subst e
    cases h with
    | dat h1 => cases h1 with
      | tup hs ha => exact ⟨srT, _, _, rfl, hs, ha⟩
theorem itzS_ok {S1 S2 : Sr} {a b : Addr} {vs us : List V} {ds es : List D} (h : S1.sq K F0 a vs) (h2 : S2.sq K F0 b us) (dp : DpAll K F0 vs ds) (dp2 : DpAll K F0 us es) : ItOk K F0 (ItzS S1 S2 K a b) ((ds.zip es).map fun p => .tuple [p.1, p.2]) where
  step := fun F H i d s1 s2 e => by
    rw [List.getElem?_map] at e
    obtain ⟨p, hp, ed⟩ := Option.map_eq_some_iff.mp e
    obtain ⟨e1, e2⟩ := List.getElem?_zip_eq_some.mp hp
    obtain ⟨v, hv, hpv⟩ := dp.get e1
    obtain ⟨u, hu, hpu⟩ := dp2.get e2
    have q1 := S1.same (s1.trans s2) h
    have q2 := S2.same (s1.trans s2) h2
    refine ⟨⟨vs, us, v, u, q1, q2, hv, hu⟩, fun x H' ⟨T, x1, y1, ex, hT, eH, f1, f2⟩ => ?_⟩
    have g1 := f1 vs q1
    have g2 := f2 us q2
    rw [hv] at g1
    rw [hu] at g2
    cases g1
    cases g2
    subst ex eH ed
    exact ⟨_, PExt.new s2 hT, .tup (SqT.of upd_same) (.cons ((hpv.mono s1).mono (same_upd (Same.free s2 hT))) (.cons ((hpu.mono s1).mono (same_upd (Same.free s2 hT))) .nil))⟩
  stop := fun F H s1 s2 => by
    have l1 := dp.length
    have l2 := dp2.length
    refine ⟨vs, us, S1.same (s1.trans s2) h, S2.same (s1.trans s2) h2, ?_⟩
    rw [List.length_map, List.length_zip]
    omega
theorem enum_get {xs : List D} {i : Nat} {d : D} (h : (enumOf xs)[i]? = some d) : ∃ x, xs[i]? = some x ∧ d = .tuple [.int (i : Nat), x] := by
  unfold enumOf at h
  rw [List.getElem?_mapIdx] at h
  obtain ⟨x, hx, e⟩ := Option.map_eq_some_iff.mp h
  exact ⟨x, hx, e.symm⟩
theorem iteS_ok {S : Sr} {a : Addr} {vs : List V} {ds : List D} (h : S.sq K F0 a vs) (dp : DpAll K F0 vs ds) : ItOk K F0 (IteS S K a) (enumOf ds) where
  step := fun F H i d s1 s2 e => by
    obtain ⟨x, hx, ed⟩ := enum_get e
    obtain ⟨v, hv, hpv⟩ := dp.get hx
    have q1 := S.same (s1.trans s2) h
    refine ⟨⟨vs, v, q1, hv⟩, fun x H' ⟨T, x1, ex, hT, eH, f1⟩ => ?_⟩
    have g1 := f1 vs q1
    rw [hv] at g1
    cases g1
    subst ex eH ed
    exact ⟨_, PExt.new s2 hT, .tup (SqT.of upd_same) (.cons (.int _) (.cons ((hpv.mono s1).mono (same_upd (Same.free s2 hT))) .nil))⟩
  stop := fun F H s1 s2 => ⟨vs, S.same (s1.trans s2) h, by rw [dp.length]; simp [enumOf]⟩
theorem up_get {lo : Int} {n i : Nat} {d : D} (h : (rangeUp lo n)[i]? = some d) : i < n ∧ d = .int (lo + i) := by
  unfold rangeUp at h
  rw [List.getElem?_map] at h
  obtain ⟨x, hx, e⟩ := Option.map_eq_some_iff.mp h
  obtain ⟨hl, ex⟩ := List.getElem?_eq_some_iff.mp hx
  rw [List.getElem_range] at ex
  subst ex
  exact ⟨by simpa using hl, e.symm⟩
theorem itr_ok {lo : Int} {n : Nat} : ItOk K F0 (Itr lo n) (rangeUp lo n) where
  step := fun F H i d s1 s2 e => by
    obtain ⟨hi, ed⟩ := up_get e
    refine ⟨hi, fun x H' ⟨e1, e2⟩ => ?_⟩
    subst e1 e2 ed
    exact ⟨F, PExt.refl s2, .int _⟩
  stop := fun F H s1 s2 => by
    show n ≤ (rangeUp lo n).length
    simp [rangeUp]
theorem itc_ok {lo : Int} {n : Nat} : ItOk K F0 (Itc lo (-1) n) ((List.range n).map fun (i : Nat) => .int (lo - i)) where
  step := fun F H i d s1 s2 e => by
    rw [List.getElem?_map] at e
    obtain ⟨x, hx, e⟩ := Option.map_eq_some_iff.mp e
    obtain ⟨hl, ex⟩ := List.getElem?_eq_some_iff.mp hx
    rw [List.getElem_range] at ex
    subst ex
    refine ⟨show i < n by simpa using hl, fun x H' ⟨e1, e2⟩ => ?_⟩
    subst e1 e2 e
    have : lo + (i : Nat) * (-1) = lo - (i : Int) := by omega
    rw [this]
    exact ⟨F, PExt.refl s2, .int _⟩
  stop := fun F H s1 s2 => by
    show n ≤ _
    simp
theorem fits_of {i : Int} (h : fits62 i = true) : -(2 ^ 62) ≤ i ∧ i < 2 ^ 62 := by
  simpa only [fits62, Bool.and_eq_true, decide_eq_true_eq] using h
theorem Rv.isInt {v : V} {i : Int} (h : Rv K w F v (.int i)) : v = .int i := by
  cases h with
  | dat h => cases h; rfl
theorem RvAll.one {vs : List V} {ds : List D} (h : RvAll K w F vs ds) (l : ds.length = 1) : ∃ v d, vs = [v] ∧ ds = [d] ∧ Rv K w F v d := by
  cases h with
  | nil => cases l
  | cons h t =>
    cases t with
    | nil => exact ⟨_, _, rfl, rfl, h⟩
    | cons _ _ => simp at l
theorem RvAll.two {vs : List V} {ds : List D} (h : RvAll K w F vs ds) (l : ds.length = 2) : ∃ v d v2 d2, vs = [v, v2] ∧ ds = [d, d2] ∧ Rv K w F v d ∧ Rv K w F v2 d2 := by
  cases h with
  | nil => cases l
  | cons h t =>
    rw [List.length_cons] at l
    obtain ⟨v, d, e1, e2, h2⟩ := t.one (by omega)
    subst e1 e2
    exact ⟨_, _, _, _, rfl, rfl, h, h2⟩
theorem rangeOf_one {d : D} {xs : List D} (h : rangeOf [d] = some xs) : ∃ b, d = .int b ∧ fits62 b = true ∧ xs = rangeUp 0 b.toNat := by
  cases d <;> first | (simp only [rangeOf, reduceCtorEq] at h; done) | skip
  rename_i b
  simp only [rangeOf] at h
  split at h
  · rename_i hb
    exact ⟨b, rfl, hb, (Option.some.inj h).symm⟩
  · cases h
theorem rangeOf_two {d d2 : D} {xs : List D} (h : rangeOf [d, d2] = some xs) : ∃ a b, d = .int a ∧ d2 = .int b ∧ fits62 a = true ∧ fits62 b = true ∧ xs = rangeUp a (b - a).toNat := by
  cases d <;> first | (simp only [rangeOf, reduceCtorEq] at h; done) | skip
  cases d2 <;> first | (simp only [rangeOf, reduceCtorEq] at h; done) | skip
  rename_i a b
  simp only [rangeOf] at h
  split at h
  · rename_i hb
    rw [Bool.and_eq_true] at hb
    exact ⟨a, b, rfl, rfl, hb.1, hb.2, (Option.some.inj h).symm⟩
  · cases h
theorem zipOf_two {d d2 : D} {xs : List D} (h : zipOf [d, d2] = some xs) : ∃ xs1 xs2, srcOf d = some xs1 ∧ srcOf d2 = some xs2 ∧ xs = (xs1.zip xs2).map fun p => .tuple [p.1, p.2] := by
  obtain ⟨xs1, h1, h⟩ := Option.bind_eq_some_iff.mp h
  obtain ⟨xs2, h2, h⟩ := Option.map_eq_some_iff.mp h
  exact ⟨xs1, xs2, h1, h2, h.symm⟩
/-- how the walk of range, zip is reckoned -/
def evRng (evs : En → Option (List D × En)) : En → Option (List D × En) := fun env => (evs env).bind fun x => (rangeOf x.1).map fun xs => (xs, x.2)
theorem evRng_some {evs : En → Option (List D × En)} {xs : List D} (h : evRng evs env = some (xs, env1)) : ∃ ds, evs env = some (ds, env1) ∧ rangeOf ds = some xs := by
  obtain ⟨x, e1, h⟩ := Option.bind_eq_some_iff.mp h
  obtain ⟨ys, e2, z⟩ := Option.map_eq_some_iff.mp h
  cases z
  exact ⟨x.1, e1, e2⟩
section
variable {a b c : Expr} {evs : En → Option (List D × En)} {p pos : Pos}
theorem i_rng1 (hg : Gl X "range") (hm : X.mg "range" = none) (ha : PA X [a] (tEs X.K X.w evs)) (hl : ∀ env ds env1, evs env = some (ds, env1) → ds.length = 1) (hs : starEach [a] X.env = [(false, eval a X.env)]) :
    PI X tg (.Call (.Name "range" p) [a] [] pos) (tI X.K X.w (evRng evs)) := PI.weak (pi_range1 hg hm ha hs) fun σ H R ⟨F, env, xs, env1, r, q, k⟩ => by
  obtain ⟨ds, e1, e2⟩ := evRng_some q
  refine ⟨F, env, ds, env1, r, e1, fun vs F' H' st rv => ?_⟩
  obtain ⟨v, d, ev, ed, h⟩ := rv.one (hl _ _ _ e1)
  subst ev ed
  obtain ⟨b, ed, hf, ex⟩ := rangeOf_one e2
  subst ed ex
  obtain ⟨h1, h2⟩ := fits_of hf
  exact ⟨b, by rw [h.isInt], h1, h2, k _ F' H' st itr_ok⟩
theorem i_rng2 (hg : Gl X "range") (hm : X.mg "range" = none) (ha : PA X [a, b] (tEs X.K X.w evs)) (hl : ∀ env ds env1, evs env = some (ds, env1) → ds.length = 2) (hs : starEach [a, b] X.env = [(false, eval a X.env), (false, eval b X.env)]) (hs2 : starEach [b] X.env = [(false, eval b X.env)]) :
    PI X tg (.Call (.Name "range" p) [a, b] [] pos) (tI X.K X.w (evRng evs)) := PI.weak (pi_range2 hg hm ha hs hs2) fun σ H R ⟨F, env, xs, env1, r, q, k⟩ => by
  obtain ⟨ds, e1, e2⟩ := evRng_some q
  refine ⟨F, env, ds, env1, r, e1, fun vs F' H' st rv => ?_⟩
  obtain ⟨v, d, v2, d2, ev, ed, h, h2⟩ := rv.two (hl _ _ _ e1)
  subst ev ed
  obtain ⟨a, b, ed, ed2, hf, hf2, ex⟩ := rangeOf_two e2
  subst ed ed2 ex
  obtain ⟨g1, g2⟩ := fits_of hf
  obtain ⟨g3, g4⟩ := fits_of hf2
  exact ⟨a, b, by rw [h.isInt, h2.isInt], ⟨g1, g2, g3, g4⟩, k _ F' H' st itr_ok⟩
def evZip (evs : En → Option (List D × En)) : En → Option (List D × En) := fun env => (evs env).bind fun x => (zipOf x.1).map fun xs => (xs, x.2)
theorem evZip_some {xs : List D} (h : evZip evs env = some (xs, env1)) : ∃ ds, evs env = some (ds, env1) ∧ zipOf ds = some xs := by
  obtain ⟨x, e1, h⟩ := Option.bind_eq_some_iff.mp h
  obtain ⟨ys, e2, z⟩ := Option.map_eq_some_iff.mp h
  cases z
  exact ⟨x.1, e1, e2⟩
theorem i_zip2 {elts : List Expr} {k1 : Nat} {tpos : Pos} (hg : Gl X "zip") (hm : X.mg "zip" = none) (ha : PA X [a, b] (tEs X.K X.w evs)) (hl : ∀ env ds env1, evs env = some (ds, env1) → ds.length = 2)
    (hs : starEach [a, b] X.env = (false, eval a X.env) :: starEach [b] X.env) (hpl : (backTo pos (starEach [b] X.env)).any (·.1) = false) :
    PI X (.Tuple elts k1 tpos) (.Call (.Name "zip" p) [a, b] [] pos) (tI X.K X.w (evZip evs)) := by
  refine ⟨fun pins s σ H R I ⟨F, env, xs, env1, r, q, k⟩ => ?_⟩
  obtain ⟨ds, e1, e2⟩ := evZip_some q
  refine Call_ (ld_blt I hg hm PyProof.Rows.boot_zip (PyProof.Rows.callWith_type1 (thn (ha.run pos pins s σ H _ I ⟨F, env, ds, env1, r, e1, fun vs F' H' st rv => (⟨F', st, rv⟩ : ∃ F', Stp X.K X.w F env σ H env1 F' H' ∧ RvAll X.K X.w F' vs ds)⟩) fun us s1 ⟨vs, H1, I1, r1, F', st, rv⟩ => ?_) hs hpl))
  obtain ⟨v, d, v2, d2, ev, ed, h, h2⟩ := rv.two (hl _ _ _ e1)
  subst ev ed
  obtain ⟨xs1, xs2, ex1, ex2, ez⟩ := zipOf_two e2
  subst ez
  obtain ⟨u, u2, eu, q1, q2⟩ := vals2 r1
  subst eu
  obtain ⟨S1, a1, vs1, ea, sq1, dp1⟩ := src_of h ex1
  obtain ⟨S2, a2, vs2, eb, sq2, dp2⟩ := src_of h2 ex2
  subst ea eb
  cases q1
  cases q2
  have sub := st.rel.sub
  obtain ⟨its, rv1, p1, _⟩ := S1.inv I1 (S1.same sub sq1)
  obtain ⟨its2, rv2, p2, _⟩ := S2.inv I1 (S2.same sub sq2)
  refine zip_begins2 (S1.begins a1 its.toArray) (S2.begins a2 its2.toArray) p1 p2 fun h' hz hTI hTO g1 g2 hsz hk => wpAny_pyIter_zip hz ?_
  have I2 : Inv X pins σ H1 { s1 with heap := h' } := I1.kept (t' := s1.toks) hk
  have l1 := S1.lt p1
  have l2 := S2.lt p2
  refine ⟨s1.heap.objs.size + 4, [s1.heap.objs.size + 4, s1.heap.objs.size + 2, s1.heap.objs.size + 3, s1.heap.objs.size, s1.heap.objs.size + 1], _, _, H1, rfl, I2, turn_zipS (S1 := S1) (S2 := S2) (a := a1) (b := a2) (zip_sep2 (fun b hb => by rw [List.mem_singleton.mp hb]; exact l1) (fun b hb => by rw [List.mem_singleton.mp hb]; exact l2)), ⟨hz, hTI, ⟨_, _, hTO⟩, S1.start g1, S2.start g2⟩, fun c hcm => ?_, k _ F' H1 st (itzS_ok sq1 sq2 dp1 dp2)⟩
  have e' : c = s1.heap.objs.size + 4 ∨ c = s1.heap.objs.size + 2 ∨ c = s1.heap.objs.size + 3 ∨ c = s1.heap.objs.size ∨ c = s1.heap.objs.size + 1 := by simpa using hcm
  have hle : s1.heap.objs.size ≤ c := by
    rcases e' with z | z | z | z | z <;> rw [z] <;> first | exact Nat.le_refl _ | exact Nat.le_add_right _ _
  exact I1.fpOk hle (I1.hok.fresh hle)
theorem i_enum {ev : En → Option (Sl × En)} {elts : List Expr} {k1 : Nat} {tpos : Pos} (hg : Gl X "enumerate") (hm : X.mg "enumerate" = none) (ha : PE X a (tO X.K X.w ev)) (hs : starEach [a] X.env = (false, eval a X.env) :: starEach [] X.env) :
    PI X (.Tuple elts k1 tpos) (.Call (.Name "enumerate" p) [a] [] pos) (tI X.K X.w fun env => (ev env).bind fun x => (srcOf x.1.dat).map fun xs => (enumOf xs, x.2)) := by
  refine ⟨fun pins s σ H R I ⟨F, env, xs, env1, r, q, k⟩ => ?_⟩
  obtain ⟨x, e1, q⟩ := Option.bind_eq_some_iff.mp q
  obtain ⟨ys, e2, z⟩ := Option.map_eq_some_iff.mp q
  cases z
  refine Call_ (ld_blt I hg hm boot_enumerate (PyProof.Rows.callWith_type1 (thn ((pa_cons (PE.frz ha) pa_nil hs).run pos pins s σ H (fun vs H' => ∃ v' F', vs = [v'] ∧ FPost X.K X.w F env σ H x.1.dat x.2 v' F' H') I ⟨F, env, x.1, x.2, r, e1, fun v F' H' f => ⟨v, F', rfl, f⟩⟩) fun us s1 ⟨vs, H1, I1, r1, v, F', ev', f⟩ => ?_) hs rfl))
  subst ev'
  obtain ⟨u, eu, q1⟩ := vals1 r1
  subst eu
  obtain ⟨S, a1, vs1, ea, sq1, dp1⟩ := src_of f.val e2
  subst ea
  cases q1
  have sub := f.st.rel.sub
  obtain ⟨its, rv1, p1, _⟩ := S.inv I1 (S.same sub sq1)
  refine enum_begins1 (S.begins a1 its.toArray) p1 fun h' he g1 hsz hk => wpAny_pyIter_enum he ?_
  have I2 : Inv X pins σ H1 { s1 with heap := h' } := I1.kept (t' := s1.toks) hk
  have l1 := S.lt p1
  refine ⟨s1.heap.objs.size + 1, [s1.heap.objs.size + 1, s1.heap.objs.size], _, _, H1, rfl, I2, turn_enumS (S := S) (a := a1) (it := s1.heap.objs.size) (Nat.succ_ne_self _) (Nat.ne_of_gt (Nat.lt_succ_of_lt l1)), ⟨⟨.none, he⟩, S.start g1⟩, fun c hcm => ?_, k _ F' H1 f.st (iteS_ok sq1 dp1)⟩
  have e' : c = s1.heap.objs.size + 1 ∨ c = s1.heap.objs.size := by simpa using hcm
  have hle : s1.heap.objs.size ≤ c := by
    rcases e' with z | z <;> rw [z] <;> first | exact Nat.le_refl _ | exact Nat.le_add_right _ _
  exact I1.fpOk hle (I1.hok.fresh hle)
end
end
end Ky
end

section
set_option autoImplicit false
set_option linter.all false
set_option maxRecDepth 100000
set_option Elab.async false
/-! Tests; and, or, not, if-else, displays, names, constants. -/
namespace Ky
open PySem PySem.Spec L2
open PyProof.Rows hiding St
section
variable (K : PySem.W.Frag) (w : World)
def tB (ev : En → Option (Sl × En)) : TT := fun σ H Q => ∃ F env s b env1, Rel K w F env σ H ∧ ev env = some (s, env1) ∧ s.dat = .bool b ∧ ∀ F' H', Stp K w F env σ H env1 F' H' → Q b H'
end
section
variable {K : PySem.W.Frag} {w : World} {F F' F0 F1 F2 H H' H1 H2 : Hp} {env env1 env2 : En} {σ : L2.St} {X : Cx} {pins : List (Addr × Obj)} {s : Shared} {kk : Nat} {a b c e : Expr} {rest : List Expr} {pos : Pos}
theorem Rs.isBool {v : V} {s : Sl} {k : Bool} (h : Rs K w F H v s) (e : s.dat = .bool k) : v = .bl k := by
  cases s with
  | emp => cases e
  | fz d =>
    have e : d = .bool k := e
    subst e
    cases h with
    | dat h => cases h; rfl
  | ow d =>
    have e : d = .bool k := e
    subst e
    rw [Rs.own_imm (by exact Bool.false_ne_true)] at h
    cases h with
    | dat h => cases h; rfl
/-- a value as a test -/
theorem pt_of {ev : En → Option (Sl × En)} (h : PT X e (tTest (tO X.K X.w ev))) : PT X e (tB X.K X.w ev) := h.weak fun σ H Q ⟨F, env, s, b, env1, r, q, eb, k⟩ =>
  ⟨F, env, s, env1, r, q, fun v F' H' p => ⟨b, p.val.isBool eb, k F' H' p.st⟩⟩
theorem tTest_weak {t t' : TE} (h : PT X e (tTest t)) (k : ∀ σ H Q, t' σ H Q → t σ H Q) : PT X e (tTest t') := h.weak fun σ H Q q => k σ H _ q
theorem pt_plain {ev : En → Option (Sl × En)} (h : PE X e (tO X.K X.w ev)) (he : ∀ whole, isTrue e X.env whole = (do let v ← whole; standAt e.pos; holding [v] (truthy v))) : PT X e (tB X.K X.w ev) := by
  refine pt_of ?_
  refine ⟨fun pins s σ H Q I hw => ?_⟩
  refine isTrue_plain (thn (h.run pins s σ H _ I hw) fun v s1 ⟨x, H1, I1, r1, q1⟩ => ?_) (he _)
  obtain ⟨d, rfl, q⟩ := q1
  cases r1
  exact wpAny_truthy_bool ⟨H1, I1, q⟩

/-! and, or, not -/
def evAnd (ev ev2 : En → Option (Sl × En)) : En → Option (Sl × En) := fun env => (ev env).bind fun x => match x.1.dat with
  | .bool true => ev2 x.2
  | .bool false => some (.fz (.bool false), x.2)
  | _ => none
def evOr (ev ev2 : En → Option (Sl × En)) : En → Option (Sl × En) := fun env => (ev env).bind fun x => match x.1.dat with
  | .bool true => some (.fz (.bool true), x.2)
  | .bool false => ev2 x.2
  | _ => none
def evNot (ev : En → Option (Sl × En)) : En → Option (Sl × En) := fun env => (ev env).bind fun x => match x.1.dat with
  | .bool b => some (.fz (.bool (!b)), x.2)
  | _ => none
def evIte (ev0 ev ev2 : En → Option (Sl × En)) : En → Option (Sl × En) := fun env => (ev0 env).bind fun x => match x.1.dat with
  | .bool true => ev x.2
  | .bool false => ev2 x.2
  | _ => none
theorem evAnd_some {ev ev2 : En → Option (Sl × En)} {s : Sl} (h : evAnd ev ev2 env = some (s, env2)) : ∃ s1 env1, ev env = some (s1, env1) ∧ ((s1.dat = .bool true ∧ ev2 env1 = some (s, env2)) ∨ (s1.dat = .bool false ∧ s = .fz (.bool false) ∧ env2 = env1)) := by
  obtain ⟨x, e1, h⟩ := Option.bind_eq_some_iff.mp h
  split at h
  · rename_i e2
    exact ⟨x.1, x.2, e1, .inl ⟨e2, h⟩⟩
  · rename_i e2
    cases h
    exact ⟨x.1, x.2, e1, .inr ⟨e2, rfl, rfl⟩⟩
  · cases h
theorem evOr_some {ev ev2 : En → Option (Sl × En)} {s : Sl} (h : evOr ev ev2 env = some (s, env2)) : ∃ s1 env1, ev env = some (s1, env1) ∧ ((s1.dat = .bool false ∧ ev2 env1 = some (s, env2)) ∨ (s1.dat = .bool true ∧ s = .fz (.bool true) ∧ env2 = env1)) := by
  obtain ⟨x, e1, h⟩ := Option.bind_eq_some_iff.mp h
  split at h
  · rename_i e2
    cases h
    exact ⟨x.1, x.2, e1, .inr ⟨e2, rfl, rfl⟩⟩
  · rename_i e2
    exact ⟨x.1, x.2, e1, .inl ⟨e2, h⟩⟩
  · cases h
theorem evNot_some {ev : En → Option (Sl × En)} {s : Sl} (h : evNot ev env = some (s, env2)) : ∃ s1 b, ev env = some (s1, env2) ∧ s1.dat = .bool b ∧ s = .fz (.bool (!b)) := by
  obtain ⟨x, e1, h⟩ := Option.bind_eq_some_iff.mp h
  split at h
  · rename_i b e2
    cases h
    exact ⟨x.1, b, e1, e2, rfl⟩
  · cases h
theorem evIte_some {ev0 ev ev2 : En → Option (Sl × En)} {s : Sl} (h : evIte ev0 ev ev2 env = some (s, env2)) : ∃ s1 env1, ev0 env = some (s1, env1) ∧ ((s1.dat = .bool true ∧ ev env1 = some (s, env2)) ∨ (s1.dat = .bool false ∧ ev2 env1 = some (s, env2))) := by
  obtain ⟨x, e1, h⟩ := Option.bind_eq_some_iff.mp h
  split at h
  · rename_i e2
    exact ⟨x.1, x.2, e1, .inl ⟨e2, h⟩⟩
  · rename_i e2
    exact ⟨x.1, x.2, e1, .inr ⟨e2, h⟩⟩
  · cases h
theorem EPost.bool (st : Stp K w F env σ H env1 F' H') (k : Bool) : EPost K w F env σ H (.fz (.bool k)) env1 (.bl k) F' H' := ⟨st, .bool, fun _ _ z => nomatch z⟩
theorem EPost.after (a : Stp K w F env σ H env1 F1 H1) {s : Sl} {v : V} (h : EPost K w F1 env1 σ H1 s env2 v F2 H2) : EPost K w F env σ H s env2 v F2 H2 :=
  ⟨a.trans h.st, h.val, fun d c e m q => a.new (h.new d c e m q)⟩
theorem e_and {ev ev2 : En → Option (Sl × En)} (ha : PE X a (tO X.K X.w ev)) (hb : PE X (.BoolOp .And (b :: rest) pos) (tO X.K X.w ev2)) : PE X (.BoolOp .And (a :: b :: rest) pos) (tO X.K X.w (evAnd ev ev2)) :=
  (pe_and ha hb).weak fun σ H Q ⟨F, env, s, env2, r, q, k⟩ => by
    obtain ⟨s1, env1, e1, hh⟩ := evAnd_some q
    refine ⟨F, env, s1, env1, r, e1, fun v F' H' p => ?_⟩
    rcases hh with ⟨eb, e2⟩ | ⟨eb, es, ee⟩
    · refine ⟨true, p.val.isBool eb, ?_⟩
      (try dsimp only); rw [if_pos rfl]
      exact ⟨F', env1, s, env2, p.st.rel, e2, fun v2 F2 H2 p2 => k v2 F2 H2 (p2.after p.st)⟩
    · refine ⟨false, p.val.isBool eb, ?_⟩
      (try dsimp only); rw [if_neg Bool.false_ne_true]
      subst es ee
      exact k _ F' H' (.bool p.st false)
theorem e_or {ev ev2 : En → Option (Sl × En)} (ha : PE X a (tO X.K X.w ev)) (hb : PE X (.BoolOp .Or (b :: rest) pos) (tO X.K X.w ev2)) : PE X (.BoolOp .Or (a :: b :: rest) pos) (tO X.K X.w (evOr ev ev2)) :=
  (pe_or ha hb).weak fun σ H Q ⟨F, env, s, env2, r, q, k⟩ => by
    obtain ⟨s1, env1, e1, hh⟩ := evOr_some q
    refine ⟨F, env, s1, env1, r, e1, fun v F' H' p => ?_⟩
    rcases hh with ⟨eb, e2⟩ | ⟨eb, es, ee⟩
    · refine ⟨false, p.val.isBool eb, ?_⟩
      (try dsimp only); rw [if_neg Bool.false_ne_true]
      exact ⟨F', env1, s, env2, p.st.rel, e2, fun v2 F2 H2 p2 => k v2 F2 H2 (p2.after p.st)⟩
    · refine ⟨true, p.val.isBool eb, ?_⟩
      (try dsimp only); rw [if_pos rfl]
      subst es ee
      exact k _ F' H' (.bool p.st true)
theorem e_not {ev : En → Option (Sl × En)} (ha : PE X a (tO X.K X.w ev)) : PE X (.UnaryOp .Not a pos) (tO X.K X.w (evNot ev)) := (pe_not ha).weak fun σ H Q ⟨F, env, s, env2, r, q, k⟩ => by
  obtain ⟨s1, b, e1, eb, es⟩ := evNot_some q
  subst es
  exact ⟨F, env, s1, env2, r, e1, fun v F' H' p => ⟨b, p.val.isBool eb, k _ F' H' (.bool p.st _)⟩⟩
theorem t_not {ev : En → Option (Sl × En)} (ha : PT X a (tB X.K X.w ev)) : PT X (.UnaryOp .Not a pos) (tB X.K X.w (evNot ev)) := (pt_not ha).weak fun σ H Q ⟨F, env, s, b, env2, r, q, eb, k⟩ => by
  obtain ⟨s1, b1, e1, eb1, es⟩ := evNot_some q
  subst es
  cases eb
  exact ⟨F, env, s1, b1, env2, r, e1, eb1, k⟩
theorem w_and {ev ev2 : En → Option (Sl × En)} (ha : PT X a (tB X.K X.w ev)) (hb : PW X (.BoolOp .And (b :: rest) pos) (tB X.K X.w ev2)) : PW X (.BoolOp .And (a :: b :: rest) pos) (tB X.K X.w (evAnd ev ev2)) :=
  (pw_and ha hb).weak fun σ H Q ⟨F, env, s, b, env2, r, q, eb, k⟩ => by
    obtain ⟨s1, env1, e1, hh⟩ := evAnd_some q
    rcases hh with ⟨eb1, e2⟩ | ⟨eb1, es, ee⟩
    · refine ⟨F, env, s1, true, env1, r, e1, eb1, fun F' H' st => ?_⟩
      (try dsimp only); rw [if_pos rfl]
      exact ⟨F', env1, s, b, env2, st.rel, e2, eb, fun F2 H2 st2 => k F2 H2 (st.trans st2)⟩
    · refine ⟨F, env, s1, false, env1, r, e1, eb1, fun F' H' st => ?_⟩
      (try dsimp only); rw [if_neg Bool.false_ne_true]
      subst es ee
      cases eb
      exact k F' H' st
theorem w_or {ev ev2 : En → Option (Sl × En)} (ha : PT X a (tB X.K X.w ev)) (hb : PW X (.BoolOp .Or (b :: rest) pos) (tB X.K X.w ev2)) : PW X (.BoolOp .Or (a :: b :: rest) pos) (tB X.K X.w (evOr ev ev2)) :=
  (pw_or ha hb).weak fun σ H Q ⟨F, env, s, b, env2, r, q, eb, k⟩ => by
    obtain ⟨s1, env1, e1, hh⟩ := evOr_some q
    rcases hh with ⟨eb1, e2⟩ | ⟨eb1, es, ee⟩
    · refine ⟨F, env, s1, false, env1, r, e1, eb1, fun F' H' st => ?_⟩
      (try dsimp only); rw [if_neg Bool.false_ne_true]
      exact ⟨F', env1, s, b, env2, st.rel, e2, eb, fun F2 H2 st2 => k F2 H2 (st.trans st2)⟩
    · refine ⟨F, env, s1, true, env1, r, e1, eb1, fun F' H' st => ?_⟩
      (try dsimp only); rw [if_pos rfl]
      subst es ee
      cases eb
      exact k F' H' st
theorem e_ite {ev0 ev ev2 : En → Option (Sl × En)} (hc : PT X c (tB X.K X.w ev0)) (ha : PE X a (tO X.K X.w ev)) (hb : PE X b (tO X.K X.w ev2)) : PE X (.IfExp c a b pos) (tO X.K X.w (evIte ev0 ev ev2)) :=
  (pe_ifExp hc ha hb).weak fun σ H Q ⟨F, env, s, env2, r, q, k⟩ => by
    obtain ⟨s1, env1, e1, hh⟩ := evIte_some q
    rcases hh with ⟨eb, e2⟩ | ⟨eb, e2⟩
    · refine ⟨F, env, s1, true, env1, r, e1, eb, fun F' H' st => ?_⟩
      (try dsimp only); rw [if_pos rfl]
      exact ⟨F', env1, s, env2, st.rel, e2, fun v2 F2 H2 p2 => k v2 F2 H2 (p2.after st)⟩
    · refine ⟨F, env, s1, false, env1, r, e1, eb, fun F' H' st => ?_⟩
      (try dsimp only); rw [if_neg Bool.false_ne_true]
      exact ⟨F', env1, s, env2, st.rel, e2, fun v2 F2 H2 p2 => k v2 F2 H2 (p2.after st)⟩
theorem t_ite {ev0 ev ev2 : En → Option (Sl × En)} (hc : PT X c (tB X.K X.w ev0)) (ha : PT X a (tB X.K X.w ev)) (hb : PT X b (tB X.K X.w ev2)) : PT X (.IfExp c a b pos) (tB X.K X.w (evIte ev0 ev ev2)) := by
  refine ⟨fun pins s σ H Q I ⟨F, env, s1, b1, env2, r, q, eb, k⟩ => ?_⟩
  obtain ⟨s2, env1, e1, hh⟩ := evIte_some q
  show wpAny _ _ (do if ← isTrue c X.env (eval c X.env) then isTrue a X.env (eval a X.env) else isTrue b X.env (eval b X.env)) _ _ s
  rcases hh with ⟨eb1, e2⟩ | ⟨eb1, e2⟩
  · refine wpAny_bind (thn (hc.run pins s σ H (fun b H1 => b = true ∧ ∃ F', Stp X.K X.w F env σ H env1 F' H1) I ⟨F, env, s2, true, env1, r, e1, eb1, fun F' H' st => ⟨rfl, F', st⟩⟩) fun d s1 ⟨H1, I1, ed, F', st⟩ => ?_)
    subst ed
    (try dsimp only); rw [if_pos rfl]
    exact ha.run pins s1 σ H1 Q I1 ⟨F', env1, _, b1, env2, st.rel, e2, eb, fun F2 H2 st2 => k F2 H2 (st.trans st2)⟩
  · refine wpAny_bind (thn (hc.run pins s σ H (fun b H1 => b = false ∧ ∃ F', Stp X.K X.w F env σ H env1 F' H1) I ⟨F, env, s2, false, env1, r, e1, eb1, fun F' H' st => ⟨rfl, F', st⟩⟩) fun d s1 ⟨H1, I1, ed, F', st⟩ => ?_)
    subst ed
    (try dsimp only); rw [if_neg Bool.false_ne_true]
    exact hb.run pins s1 σ H1 Q I1 ⟨F', env1, _, b1, env2, st.rel, e2, eb, fun F2 H2 st2 => k F2 H2 (st.trans st2)⟩

/-! displays -/
theorem e_tup {es : List Expr} {x1 : Nat} {evs : En → Option (List D × En)} (h : PA X es (tEs X.K X.w evs)) : PE X (.Tuple es x1 pos) (tO X.K X.w fun env => (evs env).bind fun x => (mkT x.1).map fun d => (.fz d, x.2)) :=
  (pe_tup h).weak fun σ H Q ⟨F, env, s, env1, r, q, k⟩ => by
    obtain ⟨x, e1, q⟩ := Option.bind_eq_some_iff.mp q
    obtain ⟨d, e2, z⟩ := Option.map_eq_some_iff.mp q
    cases z
    simp only [mkT, guardT, Option.ite_none_right_eq_some, Option.some.injEq] at e2
    obtain ⟨hn, hl, ed⟩ := e2
    subst ed
    refine ⟨F, env, x.1, x.2, r, e1, fun vs F' H' st rv => ⟨by rw [rv.length, ← SL_eq]; exact hl, fun p hp => ?_⟩⟩
    have pp := PPost.tup (K := X.K) (w := X.w) st.rel.sub hp (rv.dps hn)
    exact k _ _ _ (pp.post st)
theorem e_lst {es : List Expr} {evs : En → Option (List D × En)} (h : PA X es (tEs X.K X.w evs)) : PE X (.List es pos) (tO X.K X.w fun env => (evs env).bind fun x => (mkL x.1).map fun d => (.ow d, x.2)) :=
  (pe_lst h).weak fun σ H Q ⟨F, env, s, env1, r, q, k⟩ => by
    obtain ⟨x, e1, q⟩ := Option.bind_eq_some_iff.mp q
    obtain ⟨d, e2, z⟩ := Option.map_eq_some_iff.mp q
    cases z
    simp only [mkL, guardL, Option.ite_none_right_eq_some, Option.some.injEq] at e2
    obtain ⟨hn, hl, ed⟩ := e2
    subst ed
    refine ⟨F, env, x.1, x.2, r, e1, fun vs F' H' st rv => ⟨by rw [rv.length, ← SL_eq]; exact hl, fun p hp => ?_⟩⟩
    have pp := PPost.lst (K := X.K) (w := X.w) st.rel.sub hp (rv.dps hn) (by rw [rv.length]; exact hl)
    exact k _ _ _ (pp.post st)

/-! names, constants -/
theorem e_val {v : V} {d : D} (h : PE X e (tC v)) (hv : ∀ F, Rv X.K X.w F v d) : PE X e (tO X.K X.w fun env => some (.fz d, env)) := h.weak fun σ H Q ⟨F, env, s, env1, r, q, k⟩ => by
  cases q
  exact k v F H ⟨Stp.refl r, hv F, fun _ _ z => nomatch z⟩
def evRd (i : Nat) : En → Option (Sl × En) := fun env => match env[i]? with
  | some (.fz d) => some (.fz d, env)
  | some (.ow d) => some (.fz d, env.set i (.fz d))
  | _ => none
theorem e_rd {i : Nat} (h : PE X e (tVar i)) : PE X e (tO X.K X.w (evRd i)) := h.weak fun σ H Q ⟨F, env, s, env1, r, q, k⟩ => by
  unfold evRd at q
  split at q
  · rename_i d hd
    cases q
    rcases r.slot i _ hd with z | ⟨v, h1, h2⟩
    · cases z
    · exact ⟨v, h1, k v F H ⟨Stp.refl r, h2, fun _ _ z => nomatch z⟩⟩
  · rename_i d hd
    cases q
    obtain ⟨F', v, h1, st, h2⟩ := r.read hd
    exact ⟨v, h1, k v F' H ⟨st, h2, fun _ _ z => nomatch z⟩⟩
  · cases q
end
end Ky
end

section
set_option autoImplicit false
set_option linter.all false
set_option maxRecDepth 100000
set_option Elab.async false
/-! Comparisons. -/
namespace Ky
open PySem PySem.Spec L2
open PyProof.Rows hiding St
section
variable {K : PySem.W.Frag} {w : World} {F F' F0 F1 F2 H H' H1 H2 : Hp} {env env1 env2 : En} {σ : L2.St} {X : Cx} {pins : List (Addr × Obj)} {s : Shared} {kk : Nat} {a b c e : Expr} {rest : List Expr} {pos : Pos}
def evP2 (p : P2) (ev ev2 : En → Option (Wv × En)) : En → Option (Sl × En) := fun env => (ev env).bind fun x => (pre2 p (x.1.get x.2)).bind fun _ => (ev2 x.2).bind fun y => (x.1.get y.2).bind fun d => (y.1.get y.2).bind fun e => (f2 p d e).map fun r => (.mk p.fresh r, y.2)
theorem p2_imp {p : P2} {ev ev2 : En → Option (Wv × En)} (σ : L2.St) (H : Hp) (Q : VK) (h : tO X.K X.w (evP2 p ev ev2) σ H Q) : tW X.K X.w ev σ H fun x H1 => tW X.K X.w ev2 σ H1 fun y H2 => sem2 X.K X.w p x y H2 Q := by
  obtain ⟨F, env, s, env1, r, q, k⟩ := h
  obtain ⟨x, e1, q⟩ := Option.bind_eq_some_iff.mp q
  obtain ⟨_, _, q⟩ := Option.bind_eq_some_iff.mp q
  obtain ⟨y, e2, q⟩ := Option.bind_eq_some_iff.mp q
  obtain ⟨d, e3, q⟩ := Option.bind_eq_some_iff.mp q
  obtain ⟨e, e4, q⟩ := Option.bind_eq_some_iff.mp q
  obtain ⟨g, e5, z⟩ := Option.map_eq_some_iff.mp q
  cases z
  exact ⟨F, env, x.1, x.2, r, e1, fun v F1 H1 st wr => ⟨F1, x.2, y.1, y.2, st.rel, e2, fun u F2 H2 st2 wr2 => ⟨F2, d, e, g, st2.rel.sub, (wr.mono st2.mv.ff).get st2.rel e3, wr2.get st2.rel e4, e5, fun v' F' H' pp => k v' F' H' (pp.post (st.trans st2))⟩⟩⟩
/-- a op b, as a value and as a test -/
theorem e_cmp {p : P2} {op : CmpOp} {ev ev2 : En → Option (Wv × En)} (ho : OpR X (compareOp op) (sem2 X.K X.w p)) (ha : PE X a (tW X.K X.w ev)) (hb : PE X b (tW X.K X.w ev2)) (hm : behindInMarks op b = false) :
    PE X (.Compare a [op] [b] pos) (tO X.K X.w (evP2 p ev ev2)) ∧ PT X (.Compare a [op] [b] pos) (tB X.K X.w (evP2 p ev ev2)) :=
  ⟨(pe_cmpR ho ha hb hm).weak fun σ H Q h => p2_imp σ H Q h, pt_of (tTest_weak (pt_cmpR ho ha hb hm) fun σ H Q h => p2_imp σ H Q h)⟩
def evP1 (p : P1) (ev : En → Option (Wv × En)) : En → Option (Sl × En) := fun env => (ev env).bind fun x => (x.1.get x.2).bind fun d => (f1 p d).map fun r => (.mk p.fresh r, x.2)
theorem p1_imp {p : P1} {ev : En → Option (Wv × En)} (σ : L2.St) (H : Hp) (Q : VK) (h : tO X.K X.w (evP1 p ev) σ H Q) : tW X.K X.w ev σ H fun x H1 => sem1 X.K X.w p x H1 Q := by
  obtain ⟨F, env, s, env1, r, q, k⟩ := h
  obtain ⟨x, e1, q⟩ := Option.bind_eq_some_iff.mp q
  obtain ⟨d, e2, q⟩ := Option.bind_eq_some_iff.mp q
  obtain ⟨g, e3, z⟩ := Option.map_eq_some_iff.mp q
  cases z
  exact ⟨F, env, x.1, x.2, r, e1, fun v F1 H1 st wr => ⟨F1, d, g, st.rel.sub, wr.get st.rel e2, e3, fun v' F' H' pp => k v' F' H' (pp.post st)⟩⟩
/-- a is None, a is True .. -/
theorem e_isNon {p : P1} {op : CmpOp} {ev : En → Option (Wv × En)} {j : Nat} {p2 : Pos} (ho : OpR X (compareOp op) (onNon (sem1 X.K X.w p))) (ha : PE X a (tW X.K X.w ev)) (hm : behindInMarks op (.Constant .none j p2) = false) :
    PE X (.Compare a [op] [.Constant .none j p2] pos) (tO X.K X.w (evP1 p ev)) ∧ PT X (.Compare a [op] [.Constant .none j p2] pos) (tB X.K X.w (evP1 p ev)) :=
  ⟨(pe_cmpR ho ha pe_non hm).weak fun σ H Q h => p1_imp σ H Q h, pt_of (tTest_weak (pt_cmpR ho ha pe_non hm) fun σ H Q h => p1_imp σ H Q h)⟩
theorem e_isBl {p : Bool → P1} {op : CmpOp} {ev : En → Option (Wv × En)} {j : Nat} {p2 : Pos} {k : Bool} (ho : OpR X (compareOp op) (onBl fun b => sem1 X.K X.w (p b))) (ha : PE X a (tW X.K X.w ev)) (hm : behindInMarks op (.Constant (.bool k) j p2) = false) :
    PE X (.Compare a [op] [.Constant (.bool k) j p2] pos) (tO X.K X.w (evP1 (p k) ev)) ∧ PT X (.Compare a [op] [.Constant (.bool k) j p2] pos) (tB X.K X.w (evP1 (p k) ev)) :=
  ⟨(pe_cmpR ho ha pe_bl hm).weak fun σ H Q h => p1_imp σ H Q h, pt_of (tTest_weak (pt_cmpR ho ha pe_bl hm) fun σ H Q h => p1_imp σ H Q h)⟩
/-! a op b op c -/
def evChain (p q : P2) (ev ev2 ev3 : En → Option (Wv × En)) : En → Option (Sl × En) := fun env => (ev env).bind fun x => (ev2 x.2).bind fun y => (x.1.get y.2).bind fun d => (y.1.get y.2).bind fun e => match f2 p d e with
    | some (.bool false) => some (.fz (.bool false), y.2)
    | some (.bool true) => (ev3 y.2).bind fun z => (y.1.get z.2).bind fun e => (z.1.get z.2).bind fun g => (f2 q e g).map fun r => (.fz r, z.2)
    | _ => none
theorem chain_imp {p q : P2} {ev ev2 ev3 : En → Option (Wv × En)} (hp : p.fresh = false) (hq : q.fresh = false) (σ : L2.St) (H : Hp) (Q : VK) (h : tO X.K X.w (evChain p q ev ev2 ev3) σ H Q) :
    tChain (sem2 X.K X.w p) (sem2 X.K X.w q) (tW X.K X.w ev) (tW X.K X.w ev2) (tW X.K X.w ev3) σ H Q := by
  obtain ⟨F, env, s, env1, r, h, k⟩ := h
  obtain ⟨x, e1, h⟩ := Option.bind_eq_some_iff.mp h
  obtain ⟨y, e2, h⟩ := Option.bind_eq_some_iff.mp h
  obtain ⟨d, e3, h⟩ := Option.bind_eq_some_iff.mp h
  obtain ⟨e, e4, h⟩ := Option.bind_eq_some_iff.mp h
  refine ⟨F, env, x.1, x.2, r, e1, fun v F1 H1 st wr => ⟨F1, x.2, y.1, y.2, st.rel, e2, fun u F2 H2 st2 wr2 => ?_⟩⟩
  have isB : ∀ (z : V) (F3 H3 : Hp) (k : Bool), PPost X.K X.w F2 H2 p.fresh (.bool k) z F3 H3 → z = .bl k := fun z F3 H3 k pp => by
    have := pp.val
    rw [hp] at this
    cases this with
    | dat h => cases h; rfl
  split at h
  · rename_i ef
    cases h
    refine ⟨F2, d, e, _, st2.rel.sub, (wr.mono st2.mv.ff).get st2.rel e3, wr2.get st2.rel e4, ef, fun z F3 H3 pp => ⟨false, isB z F3 H3 false pp, ?_⟩⟩
    rw [if_neg Bool.false_ne_true]
    exact k _ F3 H3 (.bool ((st.trans st2).ext pp.ext) false)
  · rename_i ef
    obtain ⟨z, e5, h⟩ := Option.bind_eq_some_iff.mp h
    obtain ⟨e', e6, h⟩ := Option.bind_eq_some_iff.mp h
    obtain ⟨g, e7, h⟩ := Option.bind_eq_some_iff.mp h
    obtain ⟨rr, e8, zz⟩ := Option.map_eq_some_iff.mp h
    cases zz
    refine ⟨F2, d, e, _, st2.rel.sub, (wr.mono st2.mv.ff).get st2.rel e3, wr2.get st2.rel e4, ef, fun z' F3 H3 pp => ⟨true, isB z' F3 H3 true pp, ?_⟩⟩
    rw [if_pos rfl]
    have st3 := (st.trans st2).ext pp.ext
    refine ⟨F3, y.2, z.1, z.2, st3.rel, e5, fun g' F4 H4 st4 wr4 => ⟨F4, e', g, rr, st4.rel.sub, (wr2.mono (pp.ext.ff.trans st4.mv.ff)).get st4.rel e6, wr4.get st4.rel e7, e8, fun v' F' H' p2 => ?_⟩⟩
    rw [hq] at p2
    exact k v' F' H' (p2.post (st3.trans st4))
  · cases h
theorem e_chain {p q : P2} {op op' : CmpOp} {ev ev2 ev3 : En → Option (Wv × En)} (hp : p.fresh = false) (hq : q.fresh = false) (ho : OpR X (compareOp op) (sem2 X.K X.w p)) (ho' : OpR X (compareOp op') (sem2 X.K X.w q))
    (ha : PE X a (tW X.K X.w ev)) (hb : PE X b (tW X.K X.w ev2)) (hc : PE X c (tW X.K X.w ev3)) (hm : lastMarks [op, op'] [b, c] = false) :
    PE X (.Compare a [op, op'] [b, c] pos) (tO X.K X.w (evChain p q ev ev2 ev3)) ∧ PT X (.Compare a [op, op'] [b, c] pos) (tB X.K X.w (evChain p q ev ev2 ev3)) :=
  ⟨(pe_chain ho ho' ha hb hc hm).weak fun σ H Q h => chain_imp hp hq σ H Q h, pt_of (tTest_weak (pt_chain ho ho' ha hb hc hm) fun σ H Q h => chain_imp hp hq σ H Q h)⟩
end
end Ky
end

section
set_option autoImplicit false
set_option linter.all false
set_option maxRecDepth 100000
set_option Elab.async false
/-! Statements. -/
namespace Ky
open PySem PySem.Spec L2
open PyProof.Rows hiding St
section
variable (K : PySem.W.Frag) (w : World) (kp : List Nat)
/-- what is wanted behind an end -/
def fin (F : Hp) (env : En) (σ : L2.St) (H : Hp) (D : Ends) : Oc → En → Prop
  | .nx, env1 => ∀ σ' F' H', Stq K w F env σ H env1 σ' F' H' → Kept kp σ σ' → D.nx σ' H'
  | .rt s, env1 => ∀ v σ' F' H', Stq K w F env σ H env1 σ' F' H' → Kept kp σ σ' → Rs K w F' H' v s → (∀ d a, s = .ow d → isMut d = true → v = .ref a → H a = none ∧ ¬ Own env1 σ' a) → D.rt v H'
def tS (ex : En → Option (Oc × En)) : TS := fun D σ H => ∃ F env o env1, Rel K w F env σ H ∧ ex env = some (o, env1) ∧ fin K w kp F env σ H D o env1
end
section
variable {K : PySem.W.Frag} {w : World} {kp : List Nat} {F F' F0 F1 F2 H H' H1 H2 : Hp} {env env1 env2 env3 : En} {σ σ1 σ2 : L2.St} {X : Cx} {pins : List (Addr × Obj)} {s : Shared} {kk : Nat} {a b c e : Expr} {pos : Pos} {st : Stmt} {rest : List Stmt} {D D' : Ends} {o : Oc}
theorem fin.after (a : Stq K w F env σ H env2 σ1 F1 H1) (kq : Kept kp σ σ1) (h : fin K w kp F env σ H D o env1) : fin K w kp F1 env2 σ1 H1 D o env1 := by
  cases o with
  | nx => exact fun σ' F' H' q k => h σ' F' H' (a.trans q) (kq.trans k)
  | rt s => exact fun v σ' F' H' q k r n => h v σ' F' H' (a.trans q) (kq.trans k) r fun d c e m ev => ⟨a.mv.none (n d c e m ev).1, (n d c e m ev).2⟩
def evSeq (e1 e2 : En → Option (Oc × En)) : En → Option (Oc × En) := fun env => (e1 env).bind fun p => match p.1 with
    | .nx => e2 p.2
    | .rt s => some (.rt s, p.2)
theorem s_nil : PSs X [] (tS X.K X.w kp fun env => some (.nx, env)) := pss_nil.weak fun D σ H ⟨F, env, o, env1, r, q, k⟩ => by
  cases q
  exact k σ F H (Stq.refl r) .refl
theorem s_cons {e1 e2 : En → Option (Oc × En)} (h1 : PS X st (tS X.K X.w kp e1)) (h2 : PSs X rest (tS X.K X.w kp e2)) : PSs X (st :: rest) (tS X.K X.w kp (evSeq e1 e2)) :=
  (pss_cons h1 h2).weak fun D σ H ⟨F, env, o, env1, r, q, k⟩ => by
    obtain ⟨x, q1, q⟩ := Option.bind_eq_some_iff.mp q
    obtain ⟨o1, env2⟩ := x
    cases o1 with
    | nx => exact ⟨F, env, .nx, env2, r, q1, fun σ' F' H' st kq => ⟨F', env2, o, env1, st.rel, q, k.after st kq⟩⟩
    | rt s =>
      cases q
      exact ⟨F, env, .rt s, env2, r, q1, k⟩
theorem s_pass : PS X (.Pass pos) (tS X.K X.w kp fun env => some (.nx, env)) := ps_pass.weak fun D σ H ⟨F, env, o, env1, r, q, k⟩ => by
  cases q
  exact k σ F H (Stq.refl r) .refl
theorem s_dead : PS X st (tS X.K X.w kp fun _ => none) := ps_never.weak fun D σ H ⟨F, env, o, _, r, q, k⟩ => nomatch q
theorem s_doc {x : Str} {j : Nat} {pos' : Pos} : PS X (.Expr (.Constant (.str x) j pos) pos') (tS X.K X.w kp fun env => some (.nx, env)) := ps_doc.weak fun D σ H ⟨F, env, o, env1, r, q, k⟩ => by
  cases q
  exact k σ F H (Stq.refl r) .refl
theorem s_expr {ev : En → Option (Sl × En)} (he : PE X e (tO X.K X.w ev)) (hs : swapsWith e none pos.line X.env = pure false) : PS X (.Expr e pos) (tS X.K X.w kp fun env => (ev env).map fun x => (.nx, x.2)) :=
  (ps_expr he hs).weak fun D σ H ⟨F, env, o, env1, r, q, k⟩ => by
    obtain ⟨x, e1, z⟩ := Option.map_eq_some_iff.mp q
    cases z
    exact ⟨F, env, x.1, x.2, r, e1, fun v F' H' p => k σ F' H' p.st.q .refl⟩
theorem s_ret {ev : En → Option (Sl × En)} (he : PE X e (tO X.K X.w ev)) : PS X (.Return (some e) pos) (tS X.K X.w kp fun env => (ev env).map fun x => (.rt x.1, x.2)) :=
  (ps_ret he).weak fun D σ H ⟨F, env, o, env1, r, q, k⟩ => by
    obtain ⟨x, e1, z⟩ := Option.map_eq_some_iff.mp q
    cases z
    refine ⟨F, env, x.1, x.2, r, e1, fun v F' H' p => k v σ F' H' p.st.q .refl p.val fun d a ed m ev => ?_⟩
    have hn := p.new d a ed m ev
    refine ⟨hn, fun ho => ?_⟩
    obtain ⟨_, o3, q3⟩ := r.own (p.st.os a ho)
    rw [hn] at q3
    cases q3
theorem s_retN : PS X (.Return none pos) (tS X.K X.w kp fun env => some (.rt (.fz .none), env)) := ps_retN.weak fun D σ H ⟨F, env, o, env1, r, q, k⟩ => by
  cases q
  exact k .non σ F H (Stq.refl r) .refl Rv.none fun _ _ z => nomatch z
theorem s_if {ev : En → Option (Sl × En)} {e1 e2 : En → Option (Oc × En)} {p q : List Stmt} (hc : PT X c (tB X.K X.w ev)) (h1 : PSs X p (tS X.K X.w kp e1)) (h2 : PSs X q (tS X.K X.w kp e2)) :
    PS X (.If c p q pos) (tS X.K X.w kp fun env => (testOf (ev env)).bind fun x => if x.1 then e1 x.2 else e2 x.2) := (ps_if hc h1 h2).weak fun D σ H ⟨F, env, o, env1, r, q, k⟩ => by
  obtain ⟨x, q1, q⟩ := Option.bind_eq_some_iff.mp q
  obtain ⟨y, q2, q3⟩ := Option.bind_eq_some_iff.mp q1
  split at q3
  · rename_i bb eb
    cases q3
    refine ⟨F, env, y.1, bb, y.2, r, q2, eb, fun F' H' st => ?_⟩
    cases bb with
    | true =>
      (try dsimp only); rw [if_pos rfl]
      exact ⟨F', y.2, o, env1, st.rel, q, k.after st.q .refl⟩
    | false =>
      (try dsimp only); rw [if_neg Bool.false_ne_true]
      exact ⟨F', y.2, o, env1, st.rel, q, k.after st.q .refl⟩
  · cases q3

/-! stores -/
theorem EPost.store' {i : Nat} {s : Sl} {v : V} (r0 : Rel K w F env σ H) (h : EPost K w F env σ H s env1 v F' H') : Stq K w F env σ H (env1.set i s) (σ.set i (some v)) F' H' := by
  by_cases hi : i < σ.length
  · exact h.store r0 hi
  · rw [List.set_eq_of_length_le (l := σ) (by omega), List.set_eq_of_length_le (l := env1) (by rw [h.st.rel.len]; omega)]
    exact h.st.q
theorem s_asg {i : Nat} {own : Bool} {t : TE} {ev : En → Option (Sl × En)} (h : PS X st (tAsg t (gName i))) (imp : ∀ σ H Q, tO X.K X.w ev σ H Q → t σ H Q) (hi : i ∉ kp) :
    PS X st (tS X.K X.w kp fun env => (ev env).map fun x => (.nx, x.2.set i (if own then x.1 else x.1.thaw))) := h.weak fun D σ H ⟨F, env, o, env1, r, q, k⟩ => by
  obtain ⟨x, e1, z⟩ := Option.map_eq_some_iff.mp q
  cases z
  refine imp σ H _ ⟨F, env, x.1, x.2, r, e1, fun v F' H' p => ?_⟩
  cases own with
  | true => exact k _ F' H' (p.store' r) (.set hi)
  | false =>
    obtain ⟨F2, p2⟩ := p.thaw r
    exact k _ F2 H' (p2.store' r) (.set hi)
theorem s_aug {i : Nat} {p : P2} {f : Int → Int → Int} {op : Operator} {x : Str} {pos' : Pos} {ev : En → Option (Sl × En)} (hf : ∀ d e r, augD p d e = some r → ∃ i j, d = .int i ∧ e = .int j ∧ r = .int (f i j)) (hN : X.N.Nodup) (hx : X.N[i]? = some x) (hl : Loc X.env.scope x) (he : PE X e (tO X.K X.w ev)) (ho : PIp X op (ipI f))
    (hfn : X.fn x = true ∨ X.env.scope.names.lookup x = some .local) (hi : i ∉ kp) :
    PS X (.AugAssign (.Name x pos') op e pos) (tS X.K X.w kp fun env => (peek env i).bind fun _ => (ev env).bind fun x => (peek x.2 i).bind fun d => (augD p d x.1.dat).map fun r => (.nx, x.2.set i (.fz r))) :=
  (ps_aug hN hx hl he ho hfn).weak fun D σ H ⟨F, env, o, env1, r, q, k⟩ => by
    obtain ⟨d0, e0, q⟩ := Option.bind_eq_some_iff.mp q
    obtain ⟨x, e1, q⟩ := Option.bind_eq_some_iff.mp q
    obtain ⟨d, e2, q⟩ := Option.bind_eq_some_iff.mp q
    obtain ⟨g, e3, z⟩ := Option.map_eq_some_iff.mp q
    cases z
    obtain ⟨m, n, ed, ee, eg⟩ := hf _ _ _ e3
    subst eg
    have slot : ∀ {F1 H1 env1 d}, Rel X.K X.w F1 env1 σ H1 → peek env1 i = some d → ∃ v, σ[i]? = some (some v) ∧ RvW X.K X.w F1 H1 v d := fun {F1 H1 env1 d} r1 hp => by
      rcases peek_slot hp with z | z
      · rcases r1.slot i _ z with z | ⟨v, h1, h2⟩
        · cases z
        · exact ⟨v, h1, .inl h2⟩
      · rcases r1.slot i _ z with z | ⟨v, h1, h2⟩
        · cases z
        · refine ⟨v, h1, ?_⟩
          by_cases hm : isMut d = true
          · rw [Rs.own_mut hm] at h2
            obtain ⟨a, o, e1, n, q2, r2⟩ := h2
            exact .inr ⟨a, o, e1, q2, r2⟩
          · rw [Rs.own_imm hm] at h2
            exact .inl h2
    obtain ⟨v0, hs0, _⟩ := slot r e0
    refine ⟨v0, hs0, F, env, x.1, x.2, r, e1, fun v F' H' p => ?_⟩
    obtain ⟨F2, fp⟩ := p.freeze r
    obtain ⟨v1, hs1, hv1⟩ := slot fp.st.rel e2
    rw [hs0] at hs1
    cases hs1
    have ev0 := hv1.int ed
    have ev1 : v = .int n := by
      have := fp.val
      rw [ee] at this
      exact this.isInt
    refine ⟨m, n, ev0, ev1, k _ F2 H' ?_ (.set hi)⟩
    exact EPost.store' (s := .fz (.int (f m n))) (F' := F2) (H' := H') (env1 := x.2) r ⟨fp.st, .int, fun _ _ z => nomatch z⟩
end
end Ky
end

section
set_option autoImplicit false
set_option linter.all false
set_option maxRecDepth 100000
set_option Elab.async false
/-! Targets and loops. -/
namespace Ky
open PySem PySem.Spec L2
open PyProof.Rows hiding St
def Ct.slots : Ct → List Nat
  | .nm i => [i]
  | .tp is => is
section
variable {K : PySem.W.Frag} {w : World} {kp : List Nat} {F F' F0 F1 F2 H H' H1 H2 : Hp} {env env1 env2 env3 : En} {σ σ1 σ2 : L2.St} {X : Cx} {pins : List (Addr × Obj)} {s : Shared} {kk : Nat} {a b c e tg : Expr} {pos : Pos} {st : Stmt} {rest : List Stmt} {o : Oc}
/-- these slots, and no others, have changed -/
structure Stores (K : PySem.W.Frag) (w : World) (is : List Nat) (F : Hp) (env : En) (σ : L2.St) (H : Hp) (env1 : En) (σ1 : L2.St) : Prop where
  st : Stq K w F env σ H env1 σ1 F H
  len : σ1.length = σ.length
  ne : ∀ j, j ∉ is → σ1[j]? = σ[j]?
theorem Stores.kept {is : List Nat} (h : Stores K w is F env σ H env1 σ1) (d : ∀ i ∈ is, i ∉ kp) : Kept kp σ σ1 := fun j hj => h.ne j fun z => d j z hj
def gT (K : PySem.W.Frag) (w : World) (ct : Ct) : TG := fun v σ H Q => ∃ F env d env1, Rel K w F env σ H ∧ Rv K w F v d ∧ bindT env ct d = some env1 ∧ ∀ σ1, Stores K w ct.slots F env σ H env1 σ1 → Q σ1 H
theorem Rel.put' {i : Nat} {v : V} {d : D} (r : Rel K w F env σ H) (h : Rv K w F v d) : Stores K w [i] F env σ H (env.set i (.fz d)) (σ.set i (some v)) :=
  ⟨EPost.store' (s := .fz d) r ⟨Stp.refl r, h, fun _ _ z => nomatch z⟩, List.length_set, fun j hj => List.getElem?_set_ne fun z => hj (by rw [z]; exact List.mem_singleton.mpr rfl)⟩
theorem g_nm {i : Nat} {x : Str} (hN : X.N.Nodup) (hi : X.N[i]? = some x) (hx : Loc X.env.scope x) (hf : X.fn x = true ∨ X.env.scope.names.lookup x = some .local) : PG X (.Name x pos) (gT X.K X.w (.nm i)) := by
  refine ⟨fun pins s σ H v u Q I r ⟨F, env, d, env1, rl, hv, e, k⟩ => ?_⟩
  cases e
  exact (pg_name (pos := pos) hN hi hx hf).run pins s σ H v u Q I r (k _ (rl.put' hv))
/-- several, one after another -/
def gSt (K : PySem.W.Frag) (w : World) (is : List Nat) : TGs := fun vs σ H Q => ∃ F env ds env1, Rel K w F env σ H ∧ DpAll K F vs ds ∧ store env is ds = some env1 ∧ ∀ σ1, Stores K w is F env σ H env1 σ1 → Q σ1 H
theorem gs_nil : PGs X [] (gSt X.K X.w []) := by
  refine ⟨fun pins s σ H vs us Q I r ⟨F, env, ds, env1, rl, hv, e, k⟩ => ?_⟩
  cases hv with
  | nil =>
    cases e
    exact pgs_nil.run pins s σ H [] us Q I r ⟨rfl, k σ ⟨Stq.refl rl, rfl, fun _ _ => rfl⟩⟩
  | cons _ _ => simp [store] at e
theorem gs_cons {i : Nat} {is : List Nat} {x : Str} {es : List Expr} (hN : X.N.Nodup) (hi : X.N[i]? = some x) (hx : Loc X.env.scope x) (hf : X.fn x = true ∨ X.env.scope.names.lookup x = some .local) (h : PGs X es (gSt X.K X.w is)) : PGs X (.Name x pos :: es) (gSt X.K X.w (i :: is)) := by
  refine ⟨fun pins s σ H vs us Q I r ⟨F, env, ds, env1, rl, hv, e, k⟩ => ?_⟩
  cases hv with
  | nil => simp [store] at e
  | @cons v vs d ds h1 h2 =>
    have e : store (env.set i (.fz d)) is ds = some env1 := e
    have st := rl.put' (i := i) (.dat h1)
    refine (pgs_cons (pg_name (pos := pos) hN hi hx hf) h rfl).run pins s σ H _ us Q I r ⟨v, vs, rfl, F, env.set i (.fz d), ds, env1, st.st.rel, h2, e, fun σ1 s2 => k σ1 ⟨st.st.trans s2.st, s2.len.trans st.len, fun j hj => ?_⟩⟩
    rw [s2.ne j fun z => hj (List.mem_cons_of_mem _ z), st.ne j fun z => hj (by rw [List.mem_singleton.mp z]; exact List.mem_cons_self ..)]
theorem g_tp {is : List Nat} {es : List Expr} {k1 : Nat} (hc : X.calm = true) (h : PGs X es (gSt X.K X.w is)) (hn : (assignEach es X.env).length = is.length) (hst : (assignEach es X.env).findIdx? (·.1) = none) : PG X (.Tuple es k1 pos) (gT X.K X.w (.tp is)) := by
  refine ⟨fun pins s σ H v u Q I r ⟨F, env, d, env1, rl, hv, e, k⟩ => ?_⟩
  cases d <;> simp only [bindT, reduceCtorEq] at e
  cases hv with
  | dat h1 =>
    cases h1 with
    | tup hs ha =>
      have hl : ∀ (is : List Nat) (ds : List D) (env env1 : En), store env is ds = some env1 → ds.length = is.length := fun is => by
        induction is with
        | nil => intro ds env env1 h; cases ds <;> simp_all [store]
        | cons i is ih =>
          intro ds env env1 h
          cases ds with
          | nil => simp [store] at h
          | cons d ds => rw [List.length_cons, List.length_cons, ih ds _ _ h]
      exact (pg_tup (pos := pos) (k := k1) hc h hn hst).run pins s σ H _ u Q I r ⟨_, _, rfl, rl.sub.seqT hs, by rw [ha.length]; exact hl _ _ _ _ e, F, env, _, env1, rl, ha, e, k⟩

/-- x, y = e -/
theorem s_unp {is : List Nat} {ev : En → Option (Sl × En)} (h : PS X st (tAsg (tF X.K X.w ev) (gT X.K X.w (.tp is)))) (hd : ∀ i ∈ is, i ∉ kp) :
    PS X st (tS X.K X.w kp fun env => (ev env).bind fun x => (bindT x.2 (.tp is) x.1.dat).map fun env => (.nx, env)) := h.weak fun D σ H ⟨F, env, o, env1, r, q, k⟩ => by
  obtain ⟨x, e1, q⟩ := Option.bind_eq_some_iff.mp q
  obtain ⟨y, e2, z⟩ := Option.map_eq_some_iff.mp q
  cases z
  exact ⟨F, env, x.1, x.2, r, e1, fun v F' H' p => ⟨F', x.2, _, env1, p.st.rel, p.val, e2, fun σ1 s2 => k σ1 F' H' (p.st.q.trans s2.st) (s2.kept hd)⟩⟩

/-! for -/
theorem s_for {ct : Ct} {evi : En → Option (List D × En)} {e1 : En → Option (Oc × En)} {iter : Expr} {body : List Stmt} (hp : PassesOwn (model X.prog X.w) X.A X.env X.xe) (hc : X.calm = true) (hi : PI X tg iter (tI X.K X.w evi)) (hg : PG X tg (gT X.K X.w ct)) (hb : PSs X body (tS X.K X.w kp e1)) (hd : ∀ i ∈ ct.slots, i ∉ kp)
    (hs : ∀ x, foldedSetIterable iter X.env x = pure x) : PS X (.For tg iter body [] pos) (tS X.K X.w kp fun env => (evi env).bind fun x => forLoop e1 ct x.1 x.2) :=
  (ps_for hp hc hi hg hb hs).weak fun D σ H ⟨F, env, o, env1, r, q, k⟩ => by
    obtain ⟨x, q1, q⟩ := Option.bind_eq_some_iff.mp q
    refine ⟨F, env, x.1, x.2, r, q1, fun J F1 H1 st ok => ?_⟩
    refine ⟨fun i m σ' H' => m = x.1.length - i ∧ i ≤ x.1.length ∧ ∃ F' env', Rel X.K X.w F' env' σ' H' ∧ Same F1 F' ∧ forLoop e1 ct (x.1.drop i) env' = some (o, env1) ∧ fin X.K X.w kp F' env' σ' H' D o env1, ⟨x.1.length, by simp, Nat.zero_le _, F1, x.2, st.rel, Same.refl F1, q, k.after st.q .refl⟩, ?_⟩
    rintro i m σ' H' ⟨rfl, hil, F', env', r', s1, ql, kf⟩
    by_cases hlt : i < x.1.length
    · refine .inr ?_
      have hx : x.1[i]? = some x.1[i] := List.getElem?_eq_getElem hlt
      obtain ⟨hgo, hy⟩ := ok.step F' H' i _ s1 r'.sub hx
      rw [List.drop_eq_getElem_cons hlt] at ql
      obtain ⟨env2, qb, ql⟩ := Option.bind_eq_some_iff.mp ql
      obtain ⟨p, qe, ql⟩ := Option.bind_eq_some_iff.mp ql
      obtain ⟨o2, env3⟩ := p
      refine ⟨hgo, fun σ2 H2 => x.1.length - (i + 1) = x.1.length - (i + 1) ∧ i + 1 ≤ x.1.length ∧ ∃ F2 env2, Rel X.K X.w F2 env2 σ2 H2 ∧ Same F1 F2 ∧ forLoop e1 ct (x.1.drop (i + 1)) env2 = some (o, env1) ∧ fin X.K X.w kp F2 env2 σ2 H2 D o env1, fun σ2 H2 n => ⟨x.1.length - (i + 1), by omega, n⟩, fun y H2 hyl => ?_⟩
      obtain ⟨F2, pe, dp⟩ := hy y H2 hyl
      have r2 := r'.ext pe
      refine ⟨F2, env', x.1[i], env2, r2, .dat dp, qb, fun σ3 s3 => ?_⟩
      have st3 : Stq X.K X.w F' env' σ' H' env2 σ3 F2 H2 := (((Stp.refl r').ext pe).q).trans s3.st
      have kf3 := kf.after st3 (s3.kept hd)
      refine ⟨F2, env2, o2, env3, st3.rel, qe, ?_⟩
      cases o2 with
      | nx => exact fun σ4 F4 H4 st4 k4 => ⟨rfl, hlt, F4, env3, st4.rel, (s1.trans pe.ff).trans st4.mv.ff, ql, kf3.after st4 k4⟩
      | rt s =>
        cases ql
        exact kf3
    · have ei : i = x.1.length := by omega
      subst ei
      rw [List.drop_length] at ql
      cases ql
      exact .inl ⟨ok.stop F' H' s1 r'.sub, kf σ' F' H' (Stq.refl r') .refl⟩
/-! while -/
theorem s_while {ev : En → Option (Sl × En)} {e1 : En → Option (Oc × En)} {body : List Stmt} (n : Nat) (hp : PassesOwn (model X.prog X.w) X.A X.env X.xe) (hc : PT X c (tB X.K X.w ev)) (hb : PSs X body (tS X.K X.w kp e1)) :
    PS X (.While c body [] pos) (tS X.K X.w kp fun env => whlLoop (fun env => testOf (ev env)) e1 n env) := (ps_while hp hc hb).weak fun D σ H ⟨F, env, o, env1, r, q, k⟩ => by
  refine ⟨fun m σ' H' => ∃ F' env', Rel X.K X.w F' env' σ' H' ∧ whlLoop (fun env => testOf (ev env)) e1 m env' = some (o, env1) ∧ fin X.K X.w kp F' env' σ' H' D o env1, ⟨n, F, env, r, q, k⟩, ?_⟩
  rintro m σ' H' ⟨F', env', r', ql, kf⟩
  cases m with
  | zero => cases ql
  | succ m =>
    obtain ⟨x, q1, q⟩ := Option.bind_eq_some_iff.mp (show (testOf (ev env')).bind _ = _ from ql)
    obtain ⟨y, q2, q3⟩ := Option.bind_eq_some_iff.mp q1
    split at q3
    · rename_i bb eb
      cases q3
      refine ⟨F', env', y.1, bb, y.2, r', q2, eb, fun F2 H2 st => ?_⟩
      cases bb with
      | true =>
        (try dsimp only); rw [if_pos rfl]
        rw [if_pos rfl] at q
        obtain ⟨p, qe, q⟩ := Option.bind_eq_some_iff.mp q
        obtain ⟨o2, env3⟩ := p
        refine ⟨fun σ3 H3 => ∃ F3 env3, Rel X.K X.w F3 env3 σ3 H3 ∧ whlLoop (fun env => testOf (ev env)) e1 m env3 = some (o, env1) ∧ fin X.K X.w kp F3 env3 σ3 H3 D o env1, fun σ3 H3 n3 => ⟨m, Nat.lt_succ_self m, n3⟩, F2, y.2, o2, env3, st.rel, qe, ?_⟩
        have kf2 := kf.after st.q .refl
        cases o2 with
        | nx => exact fun σ4 F4 H4 st4 k4 => ⟨F4, env3, st4.rel, q, kf2.after st4 k4⟩
        | rt s =>
          cases q
          exact kf2
      | false =>
        (try dsimp only); rw [if_neg Bool.false_ne_true]
        rw [if_neg Bool.false_ne_true] at q
        cases q
        exact kf σ' F2 H2 st.q .refl
    · cases q3
end
end Ky
end

section
set_option autoImplicit false
set_option linter.all false
set_option maxRecDepth 100000
set_option Elab.async false
/-! Statements that change own lists and dicts. -/
namespace Ky
open PySem PySem.Spec L2
open PyProof.Rows hiding St
section
variable {K : PySem.W.Frag} {w : World} {kp : List Nat} {F F' F0 F1 F2 H H' H1 H2 : Hp} {env env1 env2 env3 : En} {σ σ1 σ2 : L2.St} {X : Cx} {pins : List (Addr × Obj)} {s : Shared} {kk : Nat} {a b c e tg : Expr} {pos : Pos} {st : Stmt} {rest : List Stmt} {o : Oc}
def evMutS (m : Mu) (i : Nat) (evs : En → Option (List D × En)) : En → Option (Oc × En) := fun env => (preM m env[i]?).bind fun _ => (evs env).bind fun x => match x.2[i]? with
  | some (.ow d) => (fM m d x.1).map fun r => (.nx, x.2.set i (.ow r.1))
  | _ => none
theorem evMutS_some {m : Mu} {i : Nat} {evs : En → Option (List D × En)} (h : evMutS m i evs env = some (o, env1)) :
    ∃ ds env2 d d' c, preM m env[i]? = some () ∧ evs env = some (ds, env2) ∧ env2[i]? = some (.ow d) ∧ fM m d ds = some (d', c) ∧ o = .nx ∧ env1 = env2.set i (.ow d') := by
  obtain ⟨_, e0, h⟩ := Option.bind_eq_some_iff.mp h
  obtain ⟨x, e1, h⟩ := Option.bind_eq_some_iff.mp h
  split at h
  · rename_i d e2
    obtain ⟨r, e3, z⟩ := Option.map_eq_some_iff.mp h
    cases z
    exact ⟨x.1, x.2, d, r.1, r.2, e0, e1, e2, e3, rfl, rfl⟩
  · cases h
theorem evMutS_mut {m : Mu} {i : Nat} {evs : En → Option (List D × En)} (h : evMutS m i evs env = some (o, env1)) : o = .nx ∧ ∃ s, evMut m i evs env = some (s, env1) := by
  obtain ⟨ds, env2, d, d', c, e0, e1, e2, e3, eo, ee⟩ := evMutS_some h
  subst eo ee
  refine ⟨rfl, .fz c, ?_⟩
  unfold evMut
  rw [e0, Option.bind_some, e1, Option.bind_some]
  simp only [e2, e3, Option.map_some]
theorem s_mut {m : Mu} {i : Nat} {evs : En → Option (List D × En)} (he : PE X e (tO X.K X.w (evMut m i evs))) (hs : swapsWith e none pos.line X.env = pure false) : PS X (.Expr e pos) (tS X.K X.w kp (evMutS m i evs)) :=
  (ps_expr he hs).weak fun D σ H ⟨F, env, o, env1, r, q, k⟩ => by
    obtain ⟨eo, s, q2⟩ := evMutS_mut q
    subst eo
    exact ⟨F, env, s, env1, r, q2, fun v F' H' p => k σ F' H' p.st.q .refl⟩
/-! x += ys, x an own list -/
theorem list_iaddW (l : Addr) (items : Array Value) (n : Nat) (b : Addr) (items2 : Array Value) (n2 : Nat) (dd : Option Addr) (sl : Array (Option Value)) (hs0 : ¬(!items.isEmpty && Builtin.List.listTooLong (items.size + items2.size)) = true) (hs1 : items.size ≤ sizeLine) (hs2 : items.size + items2.size ≤ sizeLine + 1) :
    Meets (Builtin.«list.__iadd__» ⟨[.ref l, .ref b], []⟩) (fun _ R s => s.heap.get? l = some { cls := .type "list", dict := none, data := .seq items n, slots := #[] } ∧ s.heap.get? b = some { cls := .type "list", dict := dd, data := .seq items2 n2, slots := sl } ∧ R (.ok (.ret (Value.ref l))) { s with heap := s.heap.update l (Obj.mapSeq fun x => x ++ items2), toks := s.toks }) :=
  .of_wp fun prog w A R s h => by
    obtain ⟨hp, g, d, tk, os⟩ := s; obtain ⟨hl, hb, h⟩ := h; have f1 := AutoSeq1.idx_int; have f2 := AutoSeq1.sub_tuple_tuple; have f3 := AutoSeq1.sub_list_list; have f4 := AutoSeq1.sub_tuple_list; have f5 := AutoSeq1.sub_list_tuple
    have hz' : (items ++ items2).size ≤ sizeLine + 1 := by rw [Array.size_append]; exact hs2
    wp_walk using (wpAny_updateSeq hl rfl (hz := hs1) (_hz' := hz')), AutoSeq1.wpAny_loadPart' hl, AutoSeq1.wpAny_loadPart' hb; exact ⟨_, rfl, h⟩
def semExt (K : PySem.W.Frag) : TIp := fun x y H Q => ∃ F a vs b us, x = .ref a ∧ y = .ref b ∧ Same F H ∧ H a = some (.lst vs) ∧ SqL K F b us ∧ vs.length + us.length ≤ SL ∧ Q (.ref a) (upd H a (.lst (vs ++ us)))
theorem r_extend : PIp X .Add (semExt X.K) := by
  intro pins s σ H x y v u Q I rx ry h
  obtain ⟨F, l, xs, b, zs, rfl, rfl, sub, hH, hB, hz, q⟩ := h
  cases rx
  cases ry
  obtain ⟨z, its, n, r, hl, e⟩ := I.lstM hH
  obtain ⟨its2, r2, p2, hz2⟩ := I.list (sub.seq hB)
  obtain ⟨⟨cls2, dd2, data2, sl2⟩, n2, ho2, hc2, hdn, hd2⟩ := p2
  simp only at hc2 hd2
  subst hc2 hd2
  have hl2 := r2.length
  rw [SL_eq] at hz
  have hsz : its.toArray.size + its2.toArray.size ≤ sizeLine := by rw [List.size_toArray, List.size_toArray]; omega
  have hlong : ¬ (!its.toArray.isEmpty && Builtin.List.listTooLong (its.toArray.size + its2.toArray.size)) = true := by
    rw [notLongL hsz, Bool.and_false]
    exact Bool.false_ne_true
  refine iadd_road ⟨_, e, rfl⟩ ⟨_, ho2, rfl⟩ (call_meets PySem.F.slot_list_iadd ⟨_, e, rfl⟩ PySem.F.entry_list_iadd (PySem.F.args_list_iadd_2 _ _)
    (list_iaddW l its.toArray n b its2.toArray n2 dd2 sl2 hlong (by rw [List.size_toArray]; omega) (by omega)) ⟨e, ho2, ?_⟩)
  refine ⟨.ref l, _, I.lset (its' := its ++ its2) (t' := s.toks) hH e (by simp) (r.append r2) ?_, rfl, q⟩
  rw [List.length_append]
  omega
theorem set_same {i : Nat} {v : Option V} (h : σ[i]? = some v) : σ.set i v = σ := by
  apply List.ext_getElem?
  intro j
  by_cases hj : i = j
  · subst hj
    rw [List.getElem?_set_self (List.getElem?_eq_some_iff.mp h).1, h]
  · rw [List.getElem?_set_ne hj]
theorem s_extend {i : Nat} {x : Str} {pos' : Pos} {ev : En → Option (Sl × En)} (hN : X.N.Nodup) (hx : X.N[i]? = some x) (hl : Loc X.env.scope x) (he : PE X e (tO X.K X.w ev)) (hfn : X.fn x = true ∨ X.env.scope.names.lookup x = some .local) :
    PS X (.AugAssign (.Name x pos') .Add e pos) (tS X.K X.w kp (evMutS .extend i fun env => (ev env).map fun y => ([y.1.dat], y.2))) := (ps_aug hN hx hl (PE.frz he) r_extend hfn).weak fun D σ H ⟨F, env, o, env1, r, q, k⟩ => by
  obtain ⟨ds, env2, d, d', c, e0, e1, e2, e3, eo, ee⟩ := evMutS_some q
  obtain ⟨y, e4, z⟩ := Option.map_eq_some_iff.mp e1
  cases z
  subst eo ee
  obtain ⟨xs0, ex0⟩ := preM_list (.inr (.inr rfl)) e0
  obtain ⟨a0, vs0, ho0, s0, hH0, _, _⟩ := r.ownL ex0
  refine ⟨.ref a0, s0, F, env, y.1, y.2, r, e4, fun v F' H' p => ?_⟩
  obtain ⟨es, ed, ey⟩ : ∃ ds es, d = .list ds ∧ y.1.dat = .list es := by
    cases d <;> first | (simp only [fM, reduceCtorEq] at e3; done) | skip
    generalize hy : y.1.dat = yd at e3
    cases yd <;> first | (simp only [fM, reduceCtorEq] at e3; done) | skip
    exact ⟨_, _, rfl, rfl⟩
  obtain ⟨ed, ey⟩ := ey
  subst ed
  rw [ey] at e3
  simp only [fM, Option.ite_none_right_eq_some, decide_eq_true_eq, Option.some.injEq, Prod.mk.injEq] at e3
  obtain ⟨hz, ed', ec⟩ := e3
  subst ed' ec
  obtain ⟨a1, vs1, ho1, s1, hH1, dp1, l1⟩ := p.st.rel.ownL e2
  rw [s0] at s1
  cases s1
  have hv := p.val
  rw [ey] at hv
  cases hv with
  | dat h1 =>
    cases h1 with
    | lst hs ha =>
      rename_i b us
      have hz' : vs1.length + us.length ≤ SL := by rw [dp1.length, ha.length]; exact hz
      refine ⟨F', a0, vs1, _, _, rfl, rfl, p.st.rel.sub, hH1, hs, hz', ?_⟩
      show D.nx (σ.set i (some (.ref a0))) _
      rw [set_same s0]
      exact k σ F' _ (p.st.trans (Stp.mut p.st.rel ho1 rfl (.lst (dp1.append ha) (by rw [List.length_append]; exact hz')))).q .refl
/-! x[k] = v -/
theorem s_set {i : Nat} {x k : Expr} {pos' : Pos} {ev ev2 : En → Option (Sl × En)} (hr : Room kk X.A) (hx : PE X x (tVar i)) (hk : PE X k (tO X.K X.w ev2)) (he : PE X e (tO X.K X.w ev))
    (ha : ∀ v, assign (.Subscript x k pos') X.env v = (do
      let ov ← holding [v] (eval x X.env)
      let iv ← holding [v, ov] (eval k X.env)
      standAt pos'
      holding [v, ov, iv] (setItem ov iv v)
      release [v, ov, iv] [])) (hs : swapsWithSole [.Subscript x k pos'] e pos.line X.env = pure false) (hw : swappedStores [.Subscript x k pos'] e X.env = pure none)
    (h1 : (assignEach [.Subscript x k pos'] X.env).map (·.2) = [assign (.Subscript x k pos') X.env]) :
    PS X (.Assign [.Subscript x k pos'] e pos) (tS X.K X.w kp (evMutS .set i fun env => (ev env).bind fun y => (ev2 y.2).map fun z => ([y.1.dat, z.1.dat], z.2))) :=
  (ps_asg (PE.frz he) (pg_sub hx (PE.frz hk) (r_set hr) ha) hs hw h1).weak fun D σ H ⟨F, env, o, env1, r, q, k⟩ => by
    obtain ⟨ds, env2, d, d', c, e0, e1, e2, e3, eo, ee⟩ := evMutS_some q
    obtain ⟨y, e4, e1⟩ := Option.bind_eq_some_iff.mp e1
    obtain ⟨z, e5, zz⟩ := Option.map_eq_some_iff.mp e1
    cases zz
    subst eo ee
    obtain ⟨d0, ex0⟩ : ∃ d0, env[i]? = some (.ow d0) := by
      unfold preM at e0
      split at e0 <;> first | exact ⟨_, by assumption⟩ | contradiction
    obtain ⟨v0, s0⟩ : ∃ v0, σ[i]? = some (some v0) := by
      rcases r.slot i _ ex0 with z | ⟨v, h1, _⟩
      · cases z
      · exact ⟨v, h1⟩
    refine ⟨F, env, y.1, y.2, r, e4, fun v F' H' p => ⟨v0, s0, F', y.2, z.1, z.2, p.st.rel, e5, fun u F2 H2 p2 => ?_⟩⟩
    have hm : isMut d = true := by
      cases d <;> first | rfl | (simp only [fM, reduceCtorEq] at e3)
    obtain ⟨a1, o1, ho1, hF1, hH1, ob1⟩ := p2.st.rel.ownI e2 hm
    have s1 := ho1.choose_spec.2.2
    rw [s0] at s1
    cases s1
    exact ⟨F2, a1, o1, d, z.1.dat, y.1.dat, d', c, rfl, p2.st.rel.sub, hF1, hH1, ob1, p2.val, p.val.mono p2.st.mv.ff, e3, fun ho' hob hm' => k σ F2 _ ((p.st.trans p2.st).trans (Stp.mut p2.st.rel ho1 hm' hob)).q .refl⟩
/-! d[k] += j -/
def semIxD (K : PySem.W.Frag) (w : World) : V → V → Hp → VK → Prop := fun x y H Q => ∃ F kvs d r, Same F H ∧ keyable d = true ∧ RvW K w F H x (.dict kvs) ∧ RvW K w F H y d ∧ dlook kvs d = some r ∧ ∀ z, Dp K F z r → Q z H
theorem g_ixD (hr : Room kk X.A) : PGet X (semIxD X.K X.w) := fun pins s σ H x y v u Q I rx ry ⟨F, kvs, d, r, sub, hk, hx, hy, hl, q⟩ => r_ix_dict hr I rx ry sub hk hx hy hl q
theorem s_addI {i : Nat} {x k : Expr} {pos' p2 : Pos} {n : Nat} {j : Int} {ev : En → Option (Sl × En)} (hr : Room kk X.A) (hx : PE X x (tVar i)) (hk : PE X k (tO X.K X.w ev))
    (ha : ∀ ov iv new, augStore k ov iv new = (do holding [new, ov, iv] (setItem ov iv new); release [new, ov, iv] []; pure .next)) :
    PS X (.AugAssign (.Subscript x k pos') .Add (.Constant (.int j) n p2) pos) (tS X.K X.w kp (evMutS .addI i fun env => (ev env).map fun y => ([y.1.dat, .int j], y.2))) :=
  (ps_augS hx (PE.frz hk) (g_ixD hr) pe_int ip_add (r_set hr) ha).weak fun D σ H ⟨F, env, o, env1, r, q, k⟩ => by
    obtain ⟨ds, env2, d, d', c, e0, e1, e2, e3, eo, ee⟩ := evMutS_some q
    obtain ⟨y, e4, z⟩ := Option.map_eq_some_iff.mp e1
    cases z
    subst eo ee
    obtain ⟨d0, ex0⟩ : ∃ d0, env[i]? = some (.ow d0) := by
      unfold preM at e0
      split at e0 <;> first | exact ⟨_, by assumption⟩ | contradiction
    obtain ⟨v0, s0⟩ : ∃ v0, σ[i]? = some (some v0) := by
      rcases r.slot i _ ex0 with z | ⟨v, h1, _⟩
      · cases z
      · exact ⟨v, h1⟩
    refine ⟨v0, s0, F, env, y.1, y.2, r, e4, fun u F2 H2 p2 => ?_⟩
    obtain ⟨kvs, ed⟩ : ∃ kvs, d = .dict kvs := by
      cases d <;> first | exact ⟨_, rfl⟩ | (simp only [fM, reduceCtorEq] at e3)
    subst ed
    simp only [fM, Option.ite_none_right_eq_some, Bool.and_eq_true, decide_eq_true_eq] at e3
    obtain ⟨⟨hkey, hlen⟩, e3⟩ := e3
    split at e3
    · rename_i m hl
      cases e3
      obtain ⟨a1, o1, ho1, hF1, hH1, ob1⟩ := p2.st.rel.ownI e2 rfl
      have s1 := ho1.choose_spec.2.2
      rw [s0] at s1
      cases s1
      refine ⟨F2, kvs, y.1.dat, _, p2.st.rel.sub, hkey, .inr ⟨a1, o1, rfl, hH1, ob1⟩, .inl p2.val, hl, fun z hz => ⟨m, j, ?_, rfl, ?_⟩⟩
      · cases hz; rfl
      · refine ⟨F2, a1, o1, .dict kvs, y.1.dat, .int (m + j), .dict (dput kvs y.1.dat (.int (m + j))), .none, rfl, p2.st.rel.sub, hF1, hH1, ob1, p2.val, .int, ?_, fun ho' hob hm' => k σ F2 _ (p2.st.trans (Stp.mut p2.st.rel ho1 hm' hob)).q .refl⟩
        have : y.1.dat = y.1.dat := rfl
        generalize hyd : y.1.dat = yd at hkey
        cases yd <;> simp [fM, noDict, hkey, hlen]
    · cases e3
end
end Ky
end

section
set_option autoImplicit false
set_option linter.all false
set_option maxRecDepth 100000
set_option Elab.async false
/-! Slots wiped for a comprehension, and put back. -/
namespace Ky
open PySem PySem.Spec L2
open PyProof.Rows hiding St
section
variable {K : PySem.W.Frag} {w : World} {kp : List Nat} {F F' F0 F1 F2 H H' H1 H2 : Hp} {env env0 env1 env2 env3 : En} {σ σ1 σ2 : L2.St} {own : List Nat}
theorem wipe_in {j : Nat} : ∀ {own : List Nat}, j ∈ own → j < σ.length → (wipe σ own)[j]? = some none
  | v :: vs, h, hl => by
    unfold wipe
    by_cases e : v = j
    · subst e
      rw [List.getElem?_set_self (by rw [wipe_length]; exact hl)]
    · rw [List.getElem?_set_ne e]
      rcases List.mem_cons.mp h with z | z
      · exact absurd z.symm e
      · exact wipe_in z hl
theorem wipe_out {j : Nat} : ∀ {own : List Nat}, j ∉ own → (wipe σ own)[j]? = σ[j]?
  | [], _ => rfl
  | v :: vs, h => by
    unfold wipe
    rw [List.getElem?_set_ne fun e => h (by rw [e]; exact List.mem_cons_self ..)]
    exact wipe_out fun z => h (List.mem_cons_of_mem _ z)
theorem wipeE_length (env : En) : ∀ own : List Nat, (wipeE env own).length = env.length
  | [] => rfl
  | v :: vs => by unfold wipeE; rw [List.length_set, wipeE_length env vs]
theorem wipeE_in {j : Nat} : ∀ {own : List Nat}, j ∈ own → j < env.length → (wipeE env own)[j]? = some .emp
  | v :: vs, h, hl => by
    unfold wipeE
    by_cases e : v = j
    · subst e
      rw [List.getElem?_set_self (by rw [wipeE_length]; exact hl)]
    · rw [List.getElem?_set_ne e]
      rcases List.mem_cons.mp h with z | z
      · exact absurd z.symm e
      · exact wipeE_in z hl
theorem wipeE_out {j : Nat} : ∀ {own : List Nat}, j ∉ own → (wipeE env own)[j]? = env[j]?
  | [], _ => rfl
  | v :: vs, h => by
    unfold wipeE
    rw [List.getElem?_set_ne fun e => h (by rw [e]; exact List.mem_cons_self ..)]
    exact wipeE_out fun z => h (List.mem_cons_of_mem _ z)
theorem unwipe_length (env env0 : En) : ∀ own : List Nat, (unwipe env env0 own).length = env.length
  | [] => rfl
  | v :: vs => by unfold unwipe; rw [List.length_set, unwipe_length env env0 vs]
theorem unwipe_in {j : Nat} : ∀ {own : List Nat}, j ∈ own → j < env.length → (unwipe env env0 own)[j]? = some (env0.getD j .emp)
  | v :: vs, h, hl => by
    unfold unwipe
    by_cases e : v = j
    · subst e
      rw [List.getElem?_set_self (by rw [unwipe_length]; exact hl)]
    · rw [List.getElem?_set_ne e]
      rcases List.mem_cons.mp h with z | z
      · exact absurd z.symm e
      · exact unwipe_in z hl
theorem unwipe_out {j : Nat} : ∀ {own : List Nat}, j ∉ own → (unwipe env env0 own)[j]? = env[j]?
  | [], _ => rfl
  | v :: vs, h => by
    unfold unwipe
    rw [List.getElem?_set_ne fun e => h (by rw [e]; exact List.mem_cons_self ..)]
    exact unwipe_out fun z => h (List.mem_cons_of_mem _ z)
theorem wipe_eq (hl : σ1.length = σ.length) (hn : ∀ j, j ∉ own → σ1[j]? = σ[j]?) : wipe σ1 own = wipe σ own := by
  apply List.ext_getElem?
  intro j
  by_cases hj : j ∈ own
  · by_cases hlt : j < σ.length
    · rw [wipe_in hj (by rw [hl]; exact hlt), wipe_in hj hlt]
    · rw [List.getElem?_eq_none (by rw [wipe_length]; omega), List.getElem?_eq_none (by rw [wipe_length]; omega)]
  · rw [wipe_out hj, wipe_out hj, hn j hj]
theorem wipe_wipe : wipe (wipe σ own) own = wipe σ own := wipe_eq (wipe_length _ _) fun j hj => wipe_out hj
theorem OwnI.unw {i : Nat} {a : Addr} (h : OwnI (wipeE env own) (wipe σ own) i a) : OwnI env σ i a ∧ i ∉ own := by
  obtain ⟨d, e, m, s⟩ := h
  have hi : i ∉ own := fun z => by
    have := (List.getElem?_eq_some_iff.mp e).1
    rw [wipeE_length] at this
    rw [wipeE_in z this] at e
    cases e
  rw [wipeE_out hi] at e
  rw [wipe_out hi] at s
  exact ⟨⟨d, e, m, s⟩, hi⟩
theorem Own.unw {a : Addr} (h : Own (wipeE env own) (wipe σ own) a) : Own env σ a := let ⟨i, h⟩ := h; ⟨i, h.unw.1⟩
theorem Rel.wipe (r : Rel K w F env σ H) : Rel K w F (wipeE env own) (L2.wipe σ own) H := by
  refine ⟨r.sub, by rw [wipeE_length, wipe_length]; exact r.len, fun i s e => ?_, fun i j a h1 h2 => r.apart i j a h1.unw.1 h2.unw.1⟩
  by_cases hi : i ∈ own
  · have hl := (List.getElem?_eq_some_iff.mp e).1
    rw [wipeE_length] at hl
    rw [wipeE_in hi hl] at e
    cases e
    exact .inl rfl
  · rw [wipeE_out hi] at e
    rcases r.slot i s e with z | ⟨v, h1, h2⟩
    · exact .inl z
    · exact .inr ⟨v, by rw [wipe_out hi]; exact h1, h2⟩
theorem ownFree_at {i : Nat} {d : D} (h : ownFree env own = true) (hi : i ∈ own) : env[i]? ≠ some (.ow d) := fun e => by
  have := List.all_eq_true.mp h i hi
  rw [e] at this
  cases this
theorem OwnI.unun {i : Nat} {a : Addr} (fr : ownFree env0 own = true) (h : OwnI (unwipe env env0 own) σ i a) : OwnI env (wipe σ own) i a := by
  obtain ⟨d, e, m, s⟩ := h
  have hi : i ∉ own := fun z => by
    have hl := (List.getElem?_eq_some_iff.mp e).1
    rw [unwipe_length] at hl
    rw [unwipe_in z hl] at e
    have e := Option.some.inj e
    rw [List.getD_eq_getElem?_getD] at e
    cases q : env0[i]? with
    | none => rw [q] at e; cases e
    | some s =>
      rw [q] at e
      have e : s = .ow d := e
      rw [e] at q
      exact ownFree_at fr z q
  rw [unwipe_out hi] at e
  exact ⟨d, e, m, by rw [wipe_out hi]; exact s⟩
theorem Rel.unwipe (r0 : Rel K w F env0 σ H) (r : Rel K w F' env (L2.wipe σ own) H') (fr : ownFree env0 own = true) (ff : Same F F') : Rel K w F' (Ky.unwipe env env0 own) σ H' := by
  refine ⟨r.sub, by rw [unwipe_length, r.len, wipe_length], fun i s e => ?_, fun i j a h1 h2 => r.apart i j a (h1.unun fr) (h2.unun fr)⟩
  by_cases hi : i ∈ own
  · have hl := (List.getElem?_eq_some_iff.mp e).1
    rw [unwipe_length] at hl
    rw [unwipe_in hi hl] at e
    have e := Option.some.inj e
    rw [List.getD_eq_getElem?_getD] at e
    cases q : env0[i]? with
    | none =>
      rw [q] at e
      exact .inl e.symm
    | some s' =>
      rw [q] at e
      have e : s' = s := e
      subst e
      rcases r0.slot i _ q with z | ⟨v, h1, h2⟩
      · exact .inl z
      · refine .inr ⟨v, h1, ?_⟩
        cases s' with
        | emp => exact h2
        | fz d => exact Rv.mono ff h2
        | ow d => exact absurd q (ownFree_at fr hi)
  · rw [unwipe_out hi] at e
    rcases r.slot i s e with z | ⟨v, h1, h2⟩
    · exact .inl z
    · exact .inr ⟨v, by rw [wipe_out hi] at h1; exact h1, h2⟩
/-- what was frozen by a store owns nothing new -/
theorem Stores.owns {is : List Nat} (h : Stores K w is F env σ H env1 σ1) {a : Addr} (o : Own env1 σ1 a) : Own env σ a := by
  rcases h.st.os a o with z | z
  · exact z
  · obtain ⟨_, o2, q⟩ := h.st.rel.own o
    rw [z] at q
    cases q
end
end Ky
end

section
set_option autoImplicit false
set_option linter.all false
set_option maxRecDepth 100000
set_option Elab.async false
/-! List comprehensions. -/
namespace Ky
open PySem PySem.Spec L2
open PyProof.Rows hiding St
section
variable (K : PySem.W.Frag) (w : World)
/-- the tests of a comprehension -/
def tC' (ev : En → Option (Bool × En)) : TT := fun σ H Q => ∃ F env b env1, Rel K w F env σ H ∧ ev env = some (b, env1) ∧ ∀ F' H', Stp K w F env σ H env1 F' H' → Q b H'
end
def lcStep (ct : Ct) (evc : En → Option (Bool × En)) (eve : En → Option (Sl × En)) (own : List Nat) : D → En → Option (Option D × En) :=
  fun d env => (bindT env ct d).bind fun env => (evc env).bind fun c => if c.1 then (eve c.2).map fun r => (some r.1.dat, wipeE r.2 own) else some (none, wipeE c.2 own)
def evLc (ct : Ct) (evi : En → Option (List D × En)) (evc : En → Option (Bool × En)) (eve : En → Option (Sl × En)) (own : List Nat) : En → Option (Sl × En) := fun env => (evi env).bind fun x => if ownFree x.2 own then
      (lcLoop (lcStep ct evc eve own) x.1 (wipeE x.2 own)).bind fun r => (mkL r.1).map fun d => (.ow d, unwipe r.2 x.2 own)
      else none
section
variable {K : PySem.W.Frag} {w : World} {kp : List Nat} {F F' F0 F1 F2 H H' H1 H2 : Hp} {env env0 env1 env2 env3 : En} {σ σ1 σ2 : L2.St} {own : List Nat} {X : Cx} {e c : Expr}
theorem c_nil : PTs X [] (tC' X.K X.w fun env => some (true, env)) := ⟨fun pins s σ H Q I ⟨F, env, b, env1, r, q, k⟩ => by
  cases q
  exact pts_nil.run pins s σ H Q I (k F H (Stp.refl r))⟩
theorem c_one {ev : En → Option (Sl × En)} (h : PT X c (tB X.K X.w ev)) : PTs X [c] (tC' X.K X.w fun env => testOf (ev env)) := ⟨fun pins s σ H Q I ⟨F, env, b, env1, r, q, k⟩ => by
  obtain ⟨y, q2, q3⟩ := Option.bind_eq_some_iff.mp q
  split at q3
  · rename_i bb eb
    cases q3
    exact (pts_one h).run pins s σ H Q I ⟨F, env, y.1, b, y.2, r, q2, eb, k⟩
  · cases q3⟩
theorem mkL_some {xs : List D} {d : D} (h : mkL xs = some d) : xs.all noDict = true ∧ xs.length ≤ SL ∧ d = .list xs := by
  unfold mkL guardL at h
  split at h
  · rename_i h1
    split at h
    · rename_i h2
      exact ⟨h1, h2, (Option.some.inj h).symm⟩
    · cases h
  · cases h
/-- the list at hand, at each turn -/
structure LcInv (K : PySem.W.Frag) (w : World) (F1 : Hp) (env1 : En) (σ : L2.St) (H1 : Hp) (own : List Nat) (A : Addr) (F : Hp) (env : En) (H : Hp) (ds : List D) : Prop where
  mv : Mv F1 H1 (Own env1 σ) F H
  rel : Rel K w F env (wipe σ own) H
  os : ∀ a, Own env (wipe σ own) a → Own env1 σ a
  acc : ∃ vs, H A = some (.lst vs) ∧ DpAll K F vs ds
  fr : F A = none
/-- a step within keeps the list -/
theorem LcInv.step {A : Addr} {ds : List D} (h : LcInv K w F1 env1 σ H1 own A F env H ds) (hA : H1 A = none) (r1 : Rel K w F1 env1 σ H1) {σ2 : L2.St} (st : Stq K w F env (wipe σ own) H env2 σ2 F2 H2) (os : ∀ a, Own env2 σ2 a → Own env (wipe σ own) a) (hw : wipe σ2 own = wipe σ own) : LcInv K w F1 env1 σ H1 own A F2 (wipeE env2 own) H2 ds := by
  have nA : ¬ Own env (wipe σ own) A := fun z => by
    obtain ⟨_, o, q⟩ := r1.own (h.os A z)
    rw [hA] at q; cases q
  obtain ⟨vs, hv, dp⟩ := h.acc
  refine ⟨h.mv.trans st.mv fun c z => .inl (h.os c z), ?_, fun a z => ?_, ⟨vs, st.mv.fr A _ hv nA, dp.mono st.mv.ff⟩, ?_⟩
  · rw [← hw]; exact st.rel.wipe
  · rw [← hw] at z
    exact h.os a (os a z.unw)
  · cases q : F2 A with
    | none => rfl
    | some o =>
      have := st.mv.nw A _ hv nA o q
      rw [h.fr] at this; cases this
/-- one more -/
theorem LcInv.push {A : Addr} {ds : List D} {vs : List V} {y : V} {d : D} (h : LcInv K w F1 env1 σ H1 own A F env H ds) (hA : H1 A = none) (r1 : Rel K w F1 env1 σ H1) (hv : H A = some (.lst vs)) (hd : DpAll K F vs ds) (hy : Dp K F y d) : LcInv K w F1 env1 σ H1 own A F env (upd H A (.lst (vs ++ [y]))) (ds ++ [d]) := by
  have nA : ¬ Own env (wipe σ own) A := fun z => by
    obtain ⟨_, o, q⟩ := r1.own (h.os A z)
    rw [hA] at q; cases q
  refine ⟨⟨h.mv.ff, fun b o e n => ?_, h.mv.nw, fun b o e => ?_⟩, ⟨fun b o e => ?_, h.rel.len, fun i s e => ?_, h.rel.apart⟩, h.os, ⟨_, upd_same, hd.append (.cons hy .nil)⟩, h.fr⟩
  · rw [upd_ne (ne_of_none e hA)]; exact h.mv.fr b o e n
  · rw [upd_ne (ne_of_none e hA)]; exact h.mv.dm b o e
  · rw [upd_ne (ne_of_none e h.fr)]; exact h.rel.sub b o e
  · rcases h.rel.slot i s e with z | ⟨v, h1, h2⟩
    · exact .inl z
    · refine .inr ⟨v, h1, ?_⟩
      cases s with
      | emp => exact h2
      | fz d => exact h2
      | ow d =>
        by_cases hm : isMut d = true
        · rw [Rs.own_mut hm] at h2 ⊢
          obtain ⟨b, o, ev, n, q, rr⟩ := h2
          subst ev
          have hb : b ≠ A := fun z => by
            subst z
            exact nA ⟨i, d, e, hm, h1⟩
          exact ⟨b, o, rfl, n, by rw [upd_ne hb]; exact q, rr⟩
        · rw [Rs.own_imm hm] at h2 ⊢
          exact h2
theorem lcLoop_cons {step : D → En → Option (Option D × En)} {x : D} {xs : List D} {r : List D × En} (h : lcLoop step (x :: xs) env = some r) : ∃ o env2 rest, step x env = some (o, env2) ∧ lcLoop step xs env2 = some (rest, r.2) ∧ r.1 = (match o with | some d => d :: rest | none => rest) := by
  obtain ⟨p, e1, h⟩ := Option.bind_eq_some_iff.mp h
  obtain ⟨q, e2, z⟩ := Option.map_eq_some_iff.mp h
  cases z
  exact ⟨p.1, p.2, q.1, e1, e2, rfl⟩
theorem lc_imp {ct : Ct} {evi : En → Option (List D × En)} {evc : En → Option (Bool × En)} {eve : En → Option (Sl × En)} (hct : ∀ i ∈ ct.slots, i ∈ own) (σ : L2.St) (H : Hp) (Q : VK) (h : tO K w (evLc ct evi evc eve own) σ H Q) :
    tLc (tI K w evi) (gT K w ct) (tC' K w evc) (tF K w eve) own σ H Q := by
  obtain ⟨F, env, s, env9, r, q, k⟩ := h
  obtain ⟨x, q1, q⟩ := Option.bind_eq_some_iff.mp q
  obtain ⟨xs, env1⟩ := x
  split at q
  · rename_i hfr
    obtain ⟨rr, q2, q⟩ := Option.bind_eq_some_iff.mp q
    obtain ⟨dd, q3, z⟩ := Option.map_eq_some_iff.mp q
    cases z
    obtain ⟨total, envF⟩ := rr
    obtain ⟨hnd, hsz, edd⟩ := mkL_some q3
    subst edd
    simp only at q1 q2 q3 hfr k hnd hsz ⊢
    refine ⟨F, env, xs, env1, r, q1, fun J F1 H1 st ok A hA => ?_⟩
    have r1 := st.rel
    refine ⟨fun i m H' => m = xs.length - i ∧ i ≤ xs.length ∧ ∃ F' env' ds rest, LcInv K w F1 env1 σ H1 own A F' env' H' ds ∧ lcLoop (lcStep ct evc eve own) (xs.drop i) env' = some (rest, envF) ∧ ds ++ rest = total, ⟨xs.length, by simp, Nat.zero_le _, F1, wipeE env1 own, [], total, ?_, q2, rfl⟩, ?_⟩
    · have pe := PExt.own (o := .lst []) r1.sub hA
      exact ⟨pe.mv, (r1.ext pe).wipe, fun a z => z.unw, ⟨[], upd_same, .nil⟩, Same.free r1.sub hA⟩
    · rintro i m H' ⟨rfl, hil, F', env', ds, rest, inv, ql, et⟩
      by_cases hlt : i < xs.length
      · refine .inr ?_
        have hx : xs[i]? = some xs[i] := List.getElem?_eq_getElem hlt
        obtain ⟨hgo, hy⟩ := ok.step F' H' i _ inv.mv.ff inv.rel.sub hx
        rw [List.drop_eq_getElem_cons hlt] at ql
        obtain ⟨o, env2, rest2, qs, ql2, er⟩ := lcLoop_cons ql
        obtain ⟨env3, qb, qs⟩ := Option.bind_eq_some_iff.mp qs
        obtain ⟨cc, qc, qs⟩ := Option.bind_eq_some_iff.mp qs
        obtain ⟨cb, env4⟩ := cc
        refine ⟨hgo, fun H2 => ∃ F2 env2 ds2 rest2, LcInv K w F1 env1 σ H1 own A F2 env2 H2 ds2 ∧ lcLoop (lcStep ct evc eve own) (xs.drop (i + 1)) env2 = some (rest2, envF) ∧ ds2 ++ rest2 = total, fun H2 n => ⟨xs.length - (i + 1), by omega, rfl, hlt, n⟩, fun y H2 hyl => ?_⟩
        obtain ⟨F2, pe, dp⟩ := hy y H2 hyl
        have r2 := inv.rel.ext pe
        refine ⟨F2, env', xs[i], env3, r2, .dat dp, qb, fun σ3 s3 => ?_⟩
        have hw3 : wipe σ3 own = wipe σ own := by
          rw [wipe_eq (own := own) s3.len fun j hj => s3.ne j fun z => hj (hct j z)]
          exact wipe_wipe
        refine ⟨hw3, F2, env3, cb, env4, s3.st.rel, qc, fun F4 H4 st4 => ?_⟩
        have st34 : Stq K w F' env' (wipe σ own) H' env4 σ3 F4 H4 := ((((Stp.refl inv.rel).ext pe).q).trans s3.st).trans st4.q
        have os34 : ∀ a, Own env4 σ3 a → Own env' (wipe σ own) a := fun a z => s3.owns (st4.os a z)
        cases cb with
        | false =>
          (try dsimp only); rw [if_neg Bool.false_ne_true]
          have qs' : some (none, wipeE env4 own) = some (o, env2) := qs
          cases qs'
          have er' : rest = rest2 := er
          subst er'
          exact ⟨F4, wipeE env4 own, ds, rest, inv.step hA r1 st34 os34 hw3, ql2, et⟩
        | true =>
          (try dsimp only); rw [if_pos rfl]
          obtain ⟨v, qe, zz⟩ := Option.map_eq_some_iff.mp (show (eve env4).map _ = some (o, env2) from qs)
          cases zz
          have er' : rest = v.1.dat :: rest2 := er
          subst er'
          refine ⟨F4, env4, v.1, v.2, st4.rel, qe, fun u F5 H5 f => ?_⟩
          have inv5 := inv.step hA r1 (st34.trans f.st.q) (fun a z => os34 a (f.st.os a z)) hw3
          obtain ⟨vs, hv, dpv⟩ := inv5.acc
          have hnv : noDict v.1.dat = true := by
            rw [← et, List.all_append, List.all_cons] at hnd
            simp only [Bool.and_eq_true] at hnd
            exact hnd.2.1
          have hlv : vs.length < sizeLine := by
            rw [dpv.length, ← SL_eq]
            rw [← et, List.length_append, List.length_cons] at hsz
            omega
          refine ⟨vs, hv, hlv, F5, wipeE v.2 own, ds ++ [v.1.dat], rest2, inv5.push hA r1 hv dpv (f.val.dp hnv), ql2, by rw [List.append_assoc]; exact et⟩
      · have ei : i = xs.length := by omega
        subst ei
        rw [List.drop_length] at ql
        cases ql
        rw [List.append_nil] at et
        subst et
        refine .inl ⟨ok.stop F' H' inv.mv.ff inv.rel.sub, k _ F' H' ?_⟩
        obtain ⟨vs, hv, dpv⟩ := inv.acc
        have rF := r1.unwipe inv.rel hfr inv.mv.ff
        refine ⟨⟨st.mv.trans inv.mv fun c z => .inl (st.os c z), rF, fun a ⟨i, z⟩ => st.os a (inv.os a ⟨i, z.unun hfr⟩)⟩, ?_, fun d a e m ev => ?_⟩
        · show Rs K w F' H' (.ref A) (.ow (.list ds))
          rw [Rs.own_mut rfl]
          exact ⟨A, _, rfl, inv.fr, hv, .lst dpv (by rw [dpv.length]; exact hsz)⟩
        · cases ev
          exact st.new hA
  · cases q
end
end Ky
end

section
set_option autoImplicit false
set_option linter.all false
set_option maxRecDepth 100000
set_option Elab.async false
/-! List comprehensions of two clauses. -/
namespace Ky
open PySem PySem.Spec L2
open PyProof.Rows hiding St
def lcStep2 (ct : Ct) (evc : En → Option (Bool × En)) (evi1 : En → Option (List D × En)) (ct1 : Ct) (evc1 : En → Option (Bool × En)) (eve : En → Option (Sl × En)) (own own1 : List Nat) : D → En → Option (List D × En) :=
  fun d env => (bindT env ct d).bind fun env => (evc env).bind fun c => if c.1 then
          (evi1 c.2).bind fun y => (lcLoop (lcStep ct1 evc1 eve own1) y.1 (wipeE y.2 own1)).map fun r => (r.1, wipeE r.2 own)
        else some ([], wipeE c.2 own)
def evLc2 (ct : Ct) (evi : En → Option (List D × En)) (evc : En → Option (Bool × En)) (ct1 : Ct) (evi1 : En → Option (List D × En)) (evc1 : En → Option (Bool × En)) (eve : En → Option (Sl × En)) (own own1 : List Nat) : En → Option (Sl × En) := fun env => (evi env).bind fun x => if ownFree x.2 own then
      (lcLoop2 (lcStep2 ct evc evi1 ct1 evc1 eve own own1) x.1 (wipeE x.2 own)).bind fun r => (mkL r.1).map fun d => (.ow d, unwipe r.2 x.2 own)
      else none
section
variable {K : PySem.W.Frag} {w : World} {kp : List Nat} {F F' F0 F1 F2 H H' H1 H2 : Hp} {env env0 env1 env2 env3 : En} {σ σ1 σ2 : L2.St} {own own1 : List Nat} {X : Cx} {e c : Expr} {O : Addr → Prop} {A : Addr} {ds : List D}
/-- the list at hand -/
structure Acc (K : PySem.W.Frag) (w : World) (F1 H1 : Hp) (O : Addr → Prop) (A : Addr) (F : Hp) (env : En) (σ : L2.St) (H : Hp) (ds : List D) : Prop where
  mv : Mv F1 H1 O F H
  rel : Rel K w F env σ H
  os : ∀ a, Own env σ a → O a
  acc : ∃ vs, H A = some (.lst vs) ∧ DpAll K F vs ds
  fr : F A = none
theorem Acc.not (h : Acc K w F1 H1 O A F env σ H ds) (hA : H1 A = none) (hO : ∀ a, O a → ∃ o, H1 a = some o) : ¬ Own env σ A := fun z => by
  obtain ⟨o, q⟩ := hO A (h.os A z)
  rw [hA] at q; cases q
theorem Acc.step (h : Acc K w F1 H1 O A F env σ H ds) (hA : H1 A = none) (hO : ∀ a, O a → ∃ o, H1 a = some o) (st : Stq K w F env σ H env2 σ2 F2 H2) (os : ∀ a, Own env2 σ2 a → Own env σ a) : Acc K w F1 H1 O A F2 env2 σ2 H2 ds := by
  have nA := h.not hA hO
  obtain ⟨vs, hv, dp⟩ := h.acc
  refine ⟨h.mv.trans st.mv fun c z => .inl (h.os c z), st.rel, fun a z => h.os a (os a z), ⟨vs, st.mv.fr A _ hv nA, dp.mono st.mv.ff⟩, ?_⟩
  cases q : F2 A with
  | none => rfl
  | some o =>
    have := st.mv.nw A _ hv nA o q
    rw [h.fr] at this; cases this
theorem Acc.wipe (h : Acc K w F1 H1 O A F env σ H ds) : Acc K w F1 H1 O A F (wipeE env own) (L2.wipe σ own) H ds := ⟨h.mv, h.rel.wipe, fun a z => h.os a z.unw, h.acc, h.fr⟩
theorem Acc.push {vs : List V} {y : V} {d : D} (h : Acc K w F1 H1 O A F env σ H ds) (hA : H1 A = none) (hO : ∀ a, O a → ∃ o, H1 a = some o) (hv : H A = some (.lst vs)) (hd : DpAll K F vs ds) (hy : Dp K F y d) : Acc K w F1 H1 O A F env σ (upd H A (.lst (vs ++ [y]))) (ds ++ [d]) := by
  have nA := h.not hA hO
  refine ⟨⟨h.mv.ff, fun b o e n => ?_, h.mv.nw, fun b o e => ?_⟩, ⟨fun b o e => ?_, h.rel.len, fun i s e => ?_, h.rel.apart⟩, h.os, ⟨_, upd_same, hd.append (.cons hy .nil)⟩, h.fr⟩
  · rw [upd_ne (ne_of_none e hA)]; exact h.mv.fr b o e n
  · rw [upd_ne (ne_of_none e hA)]; exact h.mv.dm b o e
  · rw [upd_ne (ne_of_none e h.fr)]; exact h.rel.sub b o e
  · rcases h.rel.slot i s e with z | ⟨v, h1, h2⟩
    · exact .inl z
    · refine .inr ⟨v, h1, ?_⟩
      cases s with
      | emp => exact h2
      | fz d => exact h2
      | ow d =>
        by_cases hm : isMut d = true
        · rw [Rs.own_mut hm] at h2 ⊢
          obtain ⟨b, o, ev, n, q, rr⟩ := h2
          subst ev
          have hb : b ≠ A := fun z => by
            subst z
            exact nA ⟨i, d, e, hm, h1⟩
          exact ⟨b, o, rfl, n, by rw [upd_ne hb]; exact q, rr⟩
        · rw [Rs.own_imm hm] at h2 ⊢
          exact h2
theorem lcLoop2_cons {step : D → En → Option (List D × En)} {x : D} {xs : List D} {r : List D × En} (h : lcLoop2 step (x :: xs) env = some r) : ∃ o env2 rest, step x env = some (o, env2) ∧ lcLoop2 step xs env2 = some (rest, r.2) ∧ r.1 = o ++ rest := by
  obtain ⟨p, e1, h⟩ := Option.bind_eq_some_iff.mp h
  obtain ⟨q, e2, z⟩ := Option.map_eq_some_iff.mp h
  cases z
  exact ⟨p.1, p.2, q.1, e1, e2, rfl⟩
theorem wipe_sub (h : ∀ i ∈ own1, i ∈ own) : L2.wipe (L2.wipe σ own1) own = L2.wipe σ own := wipe_eq (wipe_length _ _) fun j hj => wipe_out fun z => hj (h j z)
theorem lc2_imp {ct ct1 : Ct} {evi evi1 : En → Option (List D × En)} {evc evc1 : En → Option (Bool × En)} {eve : En → Option (Sl × En)} (hct : ∀ i ∈ ct.slots, i ∈ own) (hct1 : ∀ i ∈ ct1.slots, i ∈ own1) (hsub : ∀ i ∈ own1, i ∈ own) (σ : L2.St) (H : Hp) (Q : VK) (h : tO K w (evLc2 ct evi evc ct1 evi1 evc1 eve own own1) σ H Q) :
    tLc2 (tI K w evi) (gT K w ct) (tC' K w evc) (tI K w evi1) (gT K w ct1) (tC' K w evc1) (tF K w eve) own own1 σ H Q := by
  obtain ⟨F, env, s, env9, r, q, k⟩ := h
  obtain ⟨x, q1, q⟩ := Option.bind_eq_some_iff.mp q
  obtain ⟨xs, env1⟩ := x
  split at q
  · rename_i hfr
    obtain ⟨rr, q2, q⟩ := Option.bind_eq_some_iff.mp q
    obtain ⟨dd, q3, z⟩ := Option.map_eq_some_iff.mp q
    cases z
    obtain ⟨total, envF⟩ := rr
    obtain ⟨hnd, hsz, edd⟩ := mkL_some q3
    subst edd
    simp only at q1 q2 q3 hfr k hnd hsz ⊢
    refine ⟨F, env, xs, env1, r, q1, fun J F1 H1 st ok A hA => ?_⟩
    have r1 := st.rel
    have hO : ∀ a, Own env1 σ a → ∃ o, H1 a = some o := fun a z => (r1.own z).2
    refine ⟨fun i m H' => m = xs.length - i ∧ i ≤ xs.length ∧ ∃ F' env' ds rest, Acc K w F1 H1 (Own env1 σ) A F' env' (L2.wipe σ own) H' ds ∧ lcLoop2 (lcStep2 ct evc evi1 ct1 evc1 eve own own1) (xs.drop i) env' = some (rest, envF) ∧ ds ++ rest = total, ⟨xs.length, by simp, Nat.zero_le _, F1, wipeE env1 own, [], total, ?_, q2, rfl⟩, ?_⟩
    · have pe := PExt.own (o := .lst []) r1.sub hA
      exact ⟨pe.mv, (r1.ext pe).wipe, fun a z => z.unw, ⟨[], upd_same, .nil⟩, Same.free r1.sub hA⟩
    · rintro i m H' ⟨rfl, hil, F', env', ds, rest, inv, ql, et⟩
      by_cases hlt : i < xs.length
      · refine .inr ?_
        have hx : xs[i]? = some xs[i] := List.getElem?_eq_getElem hlt
        obtain ⟨hgo, hy⟩ := ok.step F' H' i _ inv.mv.ff inv.rel.sub hx
        rw [List.drop_eq_getElem_cons hlt] at ql
        obtain ⟨o, env2, rest2, qs, ql2, er⟩ := lcLoop2_cons ql
        obtain ⟨env3, qb, qs⟩ := Option.bind_eq_some_iff.mp qs
        obtain ⟨cc, qc, qs⟩ := Option.bind_eq_some_iff.mp qs
        obtain ⟨cb, env4⟩ := cc
        refine ⟨hgo, fun H2 => ∃ F2 env2 ds2 rest2, Acc K w F1 H1 (Own env1 σ) A F2 env2 (L2.wipe σ own) H2 ds2 ∧ lcLoop2 (lcStep2 ct evc evi1 ct1 evc1 eve own own1) (xs.drop (i + 1)) env2 = some (rest2, envF) ∧ ds2 ++ rest2 = total, fun H2 n => ⟨xs.length - (i + 1), by omega, rfl, hlt, n⟩, fun y H2 hyl => ?_⟩
        obtain ⟨F2, pe, dp⟩ := hy y H2 hyl
        have r2 := inv.rel.ext pe
        refine ⟨F2, env', xs[i], env3, r2, .dat dp, qb, fun σ3 s3 => ?_⟩
        have hw3 : L2.wipe σ3 own = L2.wipe σ own := by
          rw [wipe_eq (own := own) s3.len fun j hj => s3.ne j fun z => hj (hct j z)]
          exact wipe_wipe
        refine ⟨hw3, F2, env3, cb, env4, s3.st.rel, qc, fun F4 H4 st4 => ?_⟩
        have st34 : Stq K w F' env' (L2.wipe σ own) H' env4 σ3 F4 H4 := ((((Stp.refl inv.rel).ext pe).q).trans s3.st).trans st4.q
        have os34 : ∀ a, Own env4 σ3 a → Own env' (L2.wipe σ own) a := fun a z => s3.owns (st4.os a z)
        have inv4 := inv.step hA hO st34 os34
        cases cb with
        | false =>
          (try dsimp only); rw [if_neg Bool.false_ne_true]
          have qs' : some ([], wipeE env4 own) = some (o, env2) := qs
          cases qs'
          have er' : rest = rest2 := er
          subst er'
          exact ⟨F4, wipeE env4 own, ds, rest, hw3 ▸ inv4.wipe, ql2, et⟩
        | true =>
          (try dsimp only); rw [if_pos rfl]
          obtain ⟨y1, qi, qs⟩ := Option.bind_eq_some_iff.mp (show (evi1 env4).bind _ = some (o, env2) from qs)
          obtain ⟨r5, q5, zz⟩ := Option.map_eq_some_iff.mp qs
          cases zz
          obtain ⟨ys, env5⟩ := y1
          obtain ⟨inner, envI⟩ := r5
          have er' : rest = inner ++ rest2 := er
          subst er'
          refine ⟨F4, env4, ys, env5, st4.rel, qi, fun J1 F5 H5 st5 ok1 => ?_⟩
          have inv5 := inv4.step hA hO st5.q st5.os
          refine ⟨fun j m H' => m = ys.length - j ∧ j ≤ ys.length ∧ ∃ F6 env6 ds6 rest6, Acc K w F1 H1 (Own env1 σ) A F6 env6 (L2.wipe σ3 own1) H' ds6 ∧ Same F5 F6 ∧ lcLoop (lcStep ct1 evc1 eve own1) (ys.drop j) env6 = some (rest6, envI) ∧ ds6 ++ rest6 = ds ++ inner, ⟨ys.length, by simp, Nat.zero_le _, F5, wipeE env5 own1, ds, inner, inv5.wipe, Same.refl F5, q5, rfl⟩, ?_⟩
          rintro j m H6 ⟨rfl, hjl, F6, env6, ds6, rest6, inv6, ff6, ql6, et6⟩
          by_cases hlt6 : j < ys.length
          · refine .inr ?_
            have hy6 : ys[j]? = some ys[j] := List.getElem?_eq_getElem hlt6
            obtain ⟨hgo6, hyy⟩ := ok1.step F6 H6 j _ ff6 inv6.rel.sub hy6
            rw [List.drop_eq_getElem_cons hlt6] at ql6
            obtain ⟨o7, env7, rest7, qs7, ql7, er7⟩ := lcLoop_cons ql6
            obtain ⟨env8, qb8, qs7⟩ := Option.bind_eq_some_iff.mp qs7
            obtain ⟨cc8, qc8, qs7⟩ := Option.bind_eq_some_iff.mp qs7
            obtain ⟨cb8, env9⟩ := cc8
            refine ⟨hgo6, fun H2 => ∃ F2 env2 ds2 rest2, Acc K w F1 H1 (Own env1 σ) A F2 env2 (L2.wipe σ3 own1) H2 ds2 ∧ Same F5 F2 ∧ lcLoop (lcStep ct1 evc1 eve own1) (ys.drop (j + 1)) env2 = some (rest2, envI) ∧ ds2 ++ rest2 = ds ++ inner, fun H2 n => ⟨ys.length - (j + 1), by omega, rfl, hlt6, n⟩, fun y7 H7 hyl7 => ?_⟩
            obtain ⟨F7, pe7, dp7⟩ := hyy y7 H7 hyl7
            have r7 := inv6.rel.ext pe7
            refine ⟨F7, env6, ys[j], env8, r7, .dat dp7, qb8, fun σ8 s8 => ?_⟩
            have hw8 : L2.wipe σ8 own1 = L2.wipe σ3 own1 := by
              rw [wipe_eq (own := own1) s8.len fun j hj => s8.ne j fun z => hj (hct1 j z)]
              exact wipe_wipe
            refine ⟨hw8, F7, env8, cb8, env9, s8.st.rel, qc8, fun F9 H9 st9 => ?_⟩
            have st79 : Stq K w F6 env6 (L2.wipe σ3 own1) H6 env9 σ8 F9 H9 := ((((Stp.refl inv6.rel).ext pe7).q).trans s8.st).trans st9.q
            have inv9 := inv6.step hA hO st79 fun a z => s8.owns (st9.os a z)
            cases cb8 with
            | false =>
              (try dsimp only); rw [if_neg Bool.false_ne_true]
              have qs' : some (none, wipeE env9 own1) = some (o7, env7) := qs7
              cases qs'
              have er' : rest6 = rest7 := er7
              subst er'
              exact ⟨F9, wipeE env9 own1, ds6, rest6, hw8 ▸ inv9.wipe, ff6.trans st79.mv.ff, ql7, et6⟩
            | true =>
              (try dsimp only); rw [if_pos rfl]
              obtain ⟨v, qe, zz⟩ := Option.map_eq_some_iff.mp (show (eve env9).map _ = some (o7, env7) from qs7)
              cases zz
              have er' : rest6 = v.1.dat :: rest7 := er7
              subst er'
              refine ⟨F9, env9, v.1, v.2, st9.rel, qe, fun u F10 H10 f => ?_⟩
              have inv10 := inv9.step hA hO f.st.q f.st.os
              obtain ⟨vs, hv, dpv⟩ := inv10.acc
              have et' : total = (ds6 ++ v.1.dat :: rest7) ++ rest2 := by rw [et6, List.append_assoc]; exact et.symm
              have hnv : noDict v.1.dat = true := by
                rw [et', List.all_append, List.all_append, List.all_cons] at hnd
                simp only [Bool.and_eq_true] at hnd
                exact hnd.1.2.1
              have hlv : vs.length < sizeLine := by
                rw [dpv.length, ← SL_eq]
                rw [et', List.length_append, List.length_append, List.length_cons] at hsz
                omega
              refine ⟨vs, hv, hlv, F10, wipeE v.2 own1, ds6 ++ [v.1.dat], rest7, hw8 ▸ (inv10.push hA hO hv dpv (f.val.dp hnv)).wipe, ff6.trans (st79.mv.ff.trans f.st.mv.ff), ql7, by rw [List.append_assoc]; exact et6⟩
          · have ej : j = ys.length := by omega
            subst ej
            rw [List.drop_length] at ql6
            cases ql6
            rw [List.append_nil] at et6
            subst et6
            refine .inl ⟨ok1.stop F6 H6 ff6 inv6.rel.sub, F6, wipeE envI own, ds ++ inner, rest2, ?_, ql2, by rw [List.append_assoc]; exact et⟩
            have := inv6.wipe (own := own)
            rw [wipe_sub hsub, hw3] at this
            exact this
      · have ei : i = xs.length := by omega
        subst ei
        rw [List.drop_length] at ql
        cases ql
        rw [List.append_nil] at et
        subst et
        refine .inl ⟨ok.stop F' H' inv.mv.ff inv.rel.sub, k _ F' H' ?_⟩
        obtain ⟨vs, hv, dpv⟩ := inv.acc
        have rF := r1.unwipe inv.rel hfr inv.mv.ff
        refine ⟨⟨st.mv.trans inv.mv fun c z => .inl (st.os c z), rF, fun a ⟨i, z⟩ => st.os a (inv.os a ⟨i, z.unun hfr⟩)⟩, ?_, fun d a e m ev => ?_⟩
        · show Rs K w F' H' (.ref A) (.ow (.list ds))
          rw [Rs.own_mut rfl]
          exact ⟨A, _, rfl, inv.fr, hv, .lst dpv (by rw [dpv.length]; exact hsz)⟩
        · cases ev
          exact st.new hA
  · cases q
end
end Ky
end

section
set_option autoImplicit false
set_option linter.all false
set_option maxRecDepth 100000
set_option Elab.async false
/-! Dict comprehensions. -/
namespace Ky
open PySem PySem.Spec L2
open PyProof.Rows hiding St
def eDict : Obj := { cls := .type "dict", data := .dict #[] }
theorem eDict_ok {K : PySem.W.Frag} {w : World} {F : Hp} : DicR K w F eDict [] := ⟨⟨rfl, rfl, rfl⟩, ⟨#[], 0, [], rfl, rfl, List.nodup_nil, .nil⟩, Nat.zero_le _⟩
theorem dictSet_raw {X : Cx} {kk : Nat} {pins : List (Addr × Obj)} {σ : L2.St} {H F : Hp} {s : Shared} {E : Value → Shared → Prop} {D' : Addr} {o : Obj} {kvs : List (D × D)} {k d : D} {y v : V} {u r : Value} {Q : Unit → Shared → Prop} (hr : Room kk X.A) (I : Inv X pins σ H s) (sub : Same F H) (hD : H D' = some (RawO D' o)) (hd : DicR X.K X.w F o kvs)
    (ry : RelV y u) (rv : RelV v r) (hy : Rv X.K X.w F y k) (hv : Dp X.K F v d) (hk : keyable k = true) (hz : kvs.length < SL) (h : ∀ o', DicR X.K X.w F o' (dput kvs k d) → ∀ s', Inv X pins σ (upd H D' (RawO D' o')) s' → Q () s') : wpAny (model X.prog X.w) X.A (dictSet D' u r) Q E s := by
  obtain ⟨b, ei, hb⟩ := hy.key hk
  subst ei
  cases ry
  obtain ⟨p1, p2, xs, hx, t⟩ := hd.at I sub hD
  have hsz : xs.length ≤ sizeLine := by rw [t.length, ← SL_eq]; omega
  refine wpAny_dictSet_heap (hsz := hsz) (show (nestedKind X.prog X.w).room X.A from ?_) (keyable_is I hk (hb.mono sub)) hx fun h' hm sb => ?_
  · show X.A.units + 8 < cLine
    have := hr.un
    omega
  have t' := t.stored hk hb rv hv
  obtain ⟨o', ho', hd'⟩ := DicR.of hm t' (by have := dput_length kvs k d; omega)
  exact h o' hd' _ (I.write (x := D') (e := D') (o := RawO D' o') (by rw [hD]; exact trivial) (.inl rfl) (fun b' x hb' hx' => (sb.2 b' hb').trans hx') ⟨_, ho'⟩ (rawO_ok ho' p1))
section
variable {X : Cx} {kk : Nat}
/-- {k: v for target in iter if ..}: D' the new dict -/
def tDcR (K : PySem.W.Frag) (w : World) (wi : TI) (g : TG) (tt : TT) (tk tv : TE) (vs : List Nat) : TE := fun σ H Q => wi σ H fun J H1 => ∀ D', H1 D' = none → ∃ W : Nat → Nat → Hp → Prop, (∃ m, W 0 m (upd H1 D' (RawO D' eDict))) ∧ ∀ i m H, W i m H →
  (J.stop i H ∧ Q (.ref D') H) ∨ (J.go i H ∧ ∃ Nx : Hp → Prop, (∀ H', Nx H' → ∃ m', m' < m ∧ W (i + 1) m' H') ∧ ∀ x H', J.yld i H x H' → g x (wipe σ vs) H' fun σ2 H2 => wipe σ2 vs = wipe σ vs ∧ tt σ2 H2 fun b H3 =>
    if b = true then tk σ2 H3 fun y H4 => tv σ2 H4 fun z H5 => ∃ (o : Obj) (F : Hp) (kvs : List (D × D)) (kd vd : D), H5 D' = some (RawO D' o) ∧ Same F H5 ∧ DicR K w F o kvs ∧ Rv K w F y kd ∧ keyable kd = true ∧ Dp K F z vd ∧ kvs.length < SL ∧ ∀ o', DicR K w F o' (dput kvs kd vd) → Nx (upd H5 D' (RawO D' o')) else Nx H3)
theorem dcR_core {pins : List (Addr × Obj)} {s : Shared} {σ : St} {H : Hp} {Q : VK} {kx vx tg iter : Expr} {ifs : List Expr} {scope : Scope} {own : List (Str × Nat)} {pos pos' : Pos} {wi : TI} {g : TG} {tt : TT} {tk tv : TE} {use : Option (Value → Sem Unit)} {Qf : Value → Shared → Prop}
    (hr : Room kk X.A) (hc : X.calm = true) (hN : X.N.Nodup) (I : Inv X pins σ H s) (hi : PI X tg iter wi) (ok : BlkOk X.N X.env.scope scope own)
    (hg : ∀ (s : Shared) (H : Hp) (C : Addr) (cl : List (Str × Addr)) (fp : List Addr), PG (X.blk s H scope (compEnvC scope cl C X.env) fp) tg g) (ht : ∀ (s : Shared) (H : Hp) (C : Addr) (cl : List (Str × Addr)) (fp : List Addr), PTs (X.blk s H scope (compEnvC scope cl C X.env) fp) ifs tt)
    (hk : ∀ (s : Shared) (H : Hp) (C : Addr) (cl : List (Str × Addr)) (fp : List Addr), PE (X.blk s H scope (compEnvC scope cl C X.env) fp) kx tk)
    (he : ∀ (s : Shared) (H : Hp) (C : Addr) (cl : List (Str × Addr)) (fp : List Addr), PE (X.blk s H scope (compEnvC scope cl C X.env) fp) vx tv) (hs : ∀ x, foldedSetIterable iter X.env x = pure x)
    (h : tDcR X.K X.w wi g tt tk tv (own.map (·.2)) σ H Q)
    (hRR : ∀ D C s' m H', Inv X pins σ H' s' → Q (.ref D) H' → s'.heap.Ns C m → FpOk X pins H' C → compPost (model X.prog X.w) X.A X.xe use Qf (.ref D) C (.ok .next) s') :
    wpAny (model X.prog X.w) X.A (comprehension (.DictComp kx vx [⟨tg, iter, ifs, 0⟩] scope pos) scope X.env pos' newDict false (eval iter X.env) use) Qf X.xe s := by
  have hfree : ∀ y ∈ scope.names, y.2 = .free → ∃ c, X.env.cells.lookup y.1 = some c := fun y hy e => by
    rcases ok.free y hy e with k | k
    · exact I.ok.has _ (.inl k)
    · exact I.ok.has _ (.inr k)
  refine wpAny_comprehension_free (use := use) rfl hs (closure_ok hfree) ok.kind (fun y hy e => by rw [ok.uniq y hy, e])
    (thn (hi.run pins s σ H _ I h) fun xv s1 hx => thn hx fun itv s2 h2 => ?_)
  obtain ⟨it, fp, tn, J, H2, e, I2, T, st2, f2, q⟩ := h2
  subst e
  refine wpAny_newObj_type (newEnv_comp ?_)
  generalize hD : s2.heap.objs.size = D
  have hDn : H2 D = none := I2.hok.fresh (Nat.le_of_eq hD)
  obtain ⟨W, ⟨m0, w0⟩, turn⟩ := q D hDn
  -- the new list
  generalize hs3 : ({ s2 with heap := s2.heap.push { cls := .type "dict", data := .dict #[] } } : Shared) = s3
  have I3 : Inv X pins σ (upd H2 D (RawO D eDict)) s3 := by
    rw [← hs3]
    refine I2.laid (t' := s2.toks) (fun b o e => Heap.get?_push_of_some _ e) (Nat.le_of_eq hD) ?_
    rw [← hD]
    exact rawO_ok (Heap.get?_push_size _ rfl) (beq_eq_false_iff_ne.mpr (Nat.ne_of_gt I2.big))
  have h3 : s3.heap = s2.heap.push { cls := .type "dict", data := .dict #[] } := by rw [← hs3]
  have sz : ∀ b ∈ fp, b < s2.heap.objs.size := fun b hb => by
    obtain ⟨o, e, _⟩ := T.obj _ _ st2 b hb
    exact Heap.lt_size e
  have f3 : ∀ b ∈ fp, FpOk X pins (upd H2 D (RawO D eDict)) b ∧ b < s3.heap.objs.size := fun b hb => by
    have hlt := sz b hb
    refine ⟨⟨?_, (f2 b hb).2⟩, by rw [h3, Heap.size_push]; exact Nat.lt_succ_of_lt hlt⟩
    rw [upd_ne (by rw [← hD]; exact Nat.ne_of_lt hlt)]
    exact (f2 b hb).1
  have st3 : tn 0 s3.heap := T.keep _ _ _ st2 fun b _ o e => by rw [h3]; exact Heap.get?_push_of_some _ e
  have I4 := block_start I3 ok hN f3
  have pg := hg s3 (upd H2 D (RawO D eDict)) s3.heap.objs.size (cellsFrom (s3.heap.objs.size + 1) scope.names (cloFrom X.env.cells scope.names [])) fp
  have pt := ht s3 (upd H2 D (RawO D eDict)) s3.heap.objs.size (cellsFrom (s3.heap.objs.size + 1) scope.names (cloFrom X.env.cells scope.names [])) fp
  have pk := hk s3 (upd H2 D (RawO D eDict)) s3.heap.objs.size (cellsFrom (s3.heap.objs.size + 1) scope.names (cloFrom X.env.cells scope.names [])) fp
  have pe := he s3 (upd H2 D (RawO D eDict)) s3.heap.objs.size (cellsFrom (s3.heap.objs.size + 1) scope.names (cloFrom X.env.cells scope.names [])) fp
  show codeAny _ _ (.compStart (.DictComp kx vx [⟨tg, iter, ifs, 0⟩] scope pos) 0 (.ref it) (.ref D) (compEnvC scope (cellsFrom (s3.heap.objs.size + 1) scope.names (cloFrom X.env.cells scope.names [])) s3.heap.objs.size X.env)) (compPost (model X.prog X.w) X.A X.xe use Qf (.ref D) s3.heap.objs.size) { s3 with heap := pushCells (s3.heap.push { cls := .type "dict", data := .dict #[] }) scope.names }
  have nfp : ∀ b ∈ fp, (upd H2 D (RawO D eDict)) b = none := fun b hb => (f3 b hb).1.1
  generalize hce : compEnvC scope (cellsFrom (s3.heap.objs.size + 1) scope.names (cloFrom X.env.cells scope.names [])) s3.heap.objs.size X.env = ce at I4 pg pt pk pe ⊢
  have cL : ce.locals = s3.heap.objs.size := by subst hce; rfl
  generalize hH3 : upd H2 D (RawO D eDict) = H3 at I3 I4 pg pt pk pe w0 nfp f3
  generalize hs4 : ({ s3 with heap := pushCells (s3.heap.push { cls := .type "dict", data := .dict #[] }) scope.names } : Shared) = s4 at I4 ⊢
  have st4 : tn 0 s4.heap := T.keep _ _ _ st3 fun b _ o e => by rw [← hs4]; exact pushCells_keeps _ _ _ _ (Heap.get?_push_of_some _ e)
  have stat : ∀ {σ' : St} {H' : Hp} {s' : Shared}, Inv (X.blk s3 H3 scope ce fp) [] σ' H' s' → (∀ b ∈ fp, H' b = none) → ∀ b ∈ fp, FpOk (X.blk s3 H3 scope ce fp) [] H' b := fun {σ' H' s'} I' hn b hb =>
    ⟨hn b hb, (I'.ok.exf b hb).1, I'.ok.exfs b hb, .inl hb, fun x c e => (I'.ok.exf b hb).2 x c e, fun p hp => absurd (show p ∈ ([] : List (Addr × Obj)) ++ [] from hp) (by simp)⟩
  have loop : codeAny (model X.prog X.w) X.A (.compLoop (.DictComp kx vx [⟨tg, iter, ifs, 0⟩] scope pos) 0 (.ref it) (.ref D) ce) (compPost (model X.prog X.w) X.A X.xe use Qf (.ref D) s3.heap.objs.size) s4 := by
    refine compLoop_anyD (fun n s' => ∃ i H', Inv (X.blk s3 H3 scope ce fp) [] (wipe σ (own.map (·.2))) H' s' ∧ tn i s'.heap ∧ (∀ b ∈ fp, H' b = none) ∧ W i n H') ?_ m0 ⟨0, H3, I4, st4, nfp, w0⟩
    rintro n s5 ⟨i, H5, I5, st5, n5, w5⟩
    rcases turn i n H5 w5 with ⟨stop, qq⟩ | ⟨go, Nx, hNx, step⟩
    · have td := T.done (X.blk s3 H3 scope ce fp) rfl rfl rfl hc i [] s5 _ H5 (fun _ _ => False) I5 (stat I5 n5) st5 stop
      refine thnF td fun r s6 ⟨hr, I6⟩ => ?_
      subst hr
      -- back in the def's context
      have I7 : Inv X pins σ H5 s6 := I3.call' (ch := fp) I6.os I6.base I6.hok I6.bare fun b hb => ⟨(f3 b hb).1.2.2.2.1, (f3 b hb).1.2.1, (f3 b hb).1.2.2.2.2.1, (f3 b hb).1.2.2.2.2.2⟩
      have nC : H5 s3.heap.objs.size = none := by
        have z : H5 ce.locals = none := I6.free
        rw [cL] at z
        exact z
      obtain ⟨m, hn, _⟩ := I6.loc
      have hn : s6.heap.Ns ce.locals m := hn
      rw [cL] at hn
      exact hRR D s3.heap.objs.size s6 m H5 I7 qq hn (I3.fpOk (Nat.le_refl _) nC)
    · have ti := T.item (X.blk s3 H3 scope ce fp) rfl rfl rfl hc i [] s5 _ H5 (fun _ _ => False) I5 (stat I5 n5) st5 go
      refine thnF ti fun r s6 ⟨u, hr, h6⟩ => ?_
      subst hr
      refine thnF h6 fun _ s7 ⟨x, H7, I7, r7, y7, st7, n7⟩ => ?_
      have I7' := I7.pinned (stat I7 n7) (T.obj _ _ st7)
      refine thnF (pg.run _ s7 _ H7 x u _ I7' r7 (step x H7 y7)) fun _ s8 ⟨σ8, H8, I8, hw8, q8⟩ => ?_
      refine thnF (pt.run _ s8 σ8 H8 _ I8 q8) fun b s9 ⟨H9, I9, q9⟩ => ?_
      -- the turn's end
      have fin : ∀ {s' : Shared} {H' : Hp}, Inv (X.blk s3 H3 scope ce fp) ([] ++ pinsAt fp s7.heap) σ8 H' s' → Nx H' → ∃ m, m < n ∧ ∃ i H', Inv (X.blk s3 H3 scope ce fp) [] (wipe σ (own.map (·.2))) H' s' ∧ tn i s'.heap ∧ (∀ b ∈ fp, H' b = none) ∧ W i m H' := fun {s' H'} I' nx => by
        obtain ⟨m', hm, w'⟩ := hNx H' nx
        have pin' : ∀ b ∈ fp, ∀ o, s7.heap.get? b = some o → s'.heap.get? b = some o ∧ H' b = none := fun b hb o e =>
          let z := I'.pin (b, o) (List.mem_append_right _ (List.mem_append_right _ (mem_pinsAt hb e)))
          ⟨z.1, z.2.1⟩
        have hl : (wipe σ (own.map (·.2))).length = σ8.length := by rw [← hw8, wipe_length]
        refine ⟨m', hm, i + 1, H', (I'.unpinned (pins := [])).weak hl (fun j v e => ?_), T.keep _ _ _ st7 fun b hb o e => (pin' b hb o e).1, fun b hb => ?_, w'⟩
        · rw [← hw8] at e
          exact (wipe_some e).1
        · obtain ⟨o, e, _⟩ := T.obj _ _ st7 b hb
          exact (pin' b hb o e).2
      cases b with
      | false =>
        simp only [Bool.false_eq_true, if_false] at q9 ⊢
        exact fin I9 q9
      | true =>
        simp only [if_true] at q9 ⊢
        refine thnF (pk.run _ s9 σ8 H9 _ I9 q9) fun z s10 ⟨yk, H10, I10, r10, q10⟩ => ?_
        refine thnF (pe.run _ s10 σ8 H10 _ I10 q10) fun z2 s11 ⟨yv, H11, I11, r11, o, F5, kvs, kd, vd, hD11, sub5, hd5, hy5, hk5, hv5, hz5, nx⟩ => ?_
        exact dictSet_raw (X := X.blk s3 H3 scope ce fp) hr I11 sub5 hD11 hd5 r10 r11 hy5 hv5 hk5 hz5 fun o' hd' s12 I12 => fin I12 (nx o' hd')
  exact codeAny_compStart_dict loop (T.self X.A 0 _ _ _ st4 loop)
theorem e_dcR {kx vx tg iter : Expr} {ifs : List Expr} {scope : Scope} {own : List (Str × Nat)} {pos : Pos} {wi : TI} {g : TG} {tt : TT} {tk tv : TE} (hr : Room kk X.A) (hc : X.calm = true) (hN : X.N.Nodup) (hi : PI X tg iter wi) (ok : BlkOk X.N X.env.scope scope own)
    (hg : ∀ (s : Shared) (H : Hp) (C : Addr) (cl : List (Str × Addr)) (fp : List Addr), PG (X.blk s H scope (compEnvC scope cl C X.env) fp) tg g) (ht : ∀ (s : Shared) (H : Hp) (C : Addr) (cl : List (Str × Addr)) (fp : List Addr), PTs (X.blk s H scope (compEnvC scope cl C X.env) fp) ifs tt)
    (hk : ∀ (s : Shared) (H : Hp) (C : Addr) (cl : List (Str × Addr)) (fp : List Addr), PE (X.blk s H scope (compEnvC scope cl C X.env) fp) kx tk)
    (he : ∀ (s : Shared) (H : Hp) (C : Addr) (cl : List (Str × Addr)) (fp : List Addr), PE (X.blk s H scope (compEnvC scope cl C X.env) fp) vx tv) (hs : ∀ x, foldedSetIterable iter X.env x = pure x) :
    PE X (.DictComp kx vx [⟨tg, iter, ifs, 0⟩] scope pos) (tDcR X.K X.w wi g tt tk tv (own.map (·.2))) := by
  refine ⟨fun pins s σ H Q I h => ?_⟩
  rw [arm_eval_DictComp]
  refine dcR_core hr hc hN I hi ok hg ht hk he hs h fun D C s' m H' I' q hn f => ⟨m, hn, fun h'' sb => ?_⟩
  obtain ⟨f0, f1, f2, f3, f4, f5⟩ := f
  exact ⟨.ref D, H', I'.turned (t' := s'.toks) (fun b o hb e => (sb.2 b hb).trans e) f0 f1 f3 f4 f5, rfl, q⟩
theorem s_dcR {i : Nat} {y : Str} {py : Pos} {kx vx tg iter : Expr} {ifs : List Expr} {scope : Scope} {own : List (Str × Nat)} {pos spos : Pos} {wi : TI} {g : TG} {tt : TT} {tk tv : TE} (hr : Room kk X.A) (hc : X.calm = true) (hN : X.N.Nodup) (hy : X.N[i]? = some y) (hyl : X.env.scope.names.lookup y = some .local)
    (hsw : swapsWith (.DictComp kx vx [⟨tg, iter, ifs, 0⟩] scope pos) (some (.Name y py)) spos.line X.env = pure true) (hi : PI X tg iter wi) (ok : BlkOk X.N X.env.scope scope own)
    (hg : ∀ (s : Shared) (H : Hp) (C : Addr) (cl : List (Str × Addr)) (fp : List Addr), PG (X.blk s H scope (compEnvC scope cl C X.env) fp) tg g) (ht : ∀ (s : Shared) (H : Hp) (C : Addr) (cl : List (Str × Addr)) (fp : List Addr), PTs (X.blk s H scope (compEnvC scope cl C X.env) fp) ifs tt)
    (hk : ∀ (s : Shared) (H : Hp) (C : Addr) (cl : List (Str × Addr)) (fp : List Addr), PE (X.blk s H scope (compEnvC scope cl C X.env) fp) kx tk)
    (he : ∀ (s : Shared) (H : Hp) (C : Addr) (cl : List (Str × Addr)) (fp : List Addr), PE (X.blk s H scope (compEnvC scope cl C X.env) fp) vx tv) (hs : ∀ x, foldedSetIterable iter X.env x = pure x) :
    PS X (.Assign [.Name y py] (.DictComp kx vx [⟨tg, iter, ifs, 0⟩] scope pos) spos) (tAsg (tDcR X.K X.w wi g tt tk tv (own.map (·.2))) (gName i)) := by
  refine ⟨fun pins s σ H D I h => ?_⟩
  rw [exec_Assign_Name_used _ _ _ _ hsw]
  refine wpAny_bind (wpAny_standAt (wpAny_bind ?_))
  show wpAny _ X.A (do let _ ← comprehension (.DictComp kx vx [⟨tg, iter, ifs, 0⟩] scope pos) scope X.env (firstIterPos [⟨tg, iter, ifs, 0⟩] pos) newDict false (eval iter X.env) (some (assign (.Name y py) X.env))) _ _ s
  have h : tDcR X.K X.w wi g tt tk tv (own.map (·.2)) σ H (fun x H1 => gName i x σ H1 D.nx) := h
  refine wpAny_bind (thn (dcR_core (Qf := fun _ s' => SP X pins D .next s') hr hc hN I hi ok hg ht hk he hs h fun L C s' m H' I' q hn f => ?_) fun _ s' hq => wpAny_pure (wpAny_pure hq))
  show wpAny _ _ (assign (.Name y py) X.env (.ref L)) _ _ _
  refine wpAny_assign_Name (store_ok2 (v := V.ref L) I' hN hy (.inl hyl) rfl (fun s2 I2 ⟨a, sb, ha⟩ => ?_) (.inr hyl))
  obtain ⟨f0, f1, f2, f3, f4, f5⟩ := f
  have haC : C ≠ a := by
    rcases ha with z | z
    · rw [z]; exact f1
    · exact fun e => f4 y a z e.symm
  refine ⟨m, hn.sameBut sb haC, fun h3 sb3 => ?_⟩
  exact ⟨_, H', I2.turned (t' := s2.toks) (fun b o hb e => (sb3.2 b hb).trans e) f0 f1 f3 f4 f5, q⟩
end
end Ky
end

section
set_option autoImplicit false
set_option linter.all false
set_option maxRecDepth 100000
set_option Elab.async false
namespace Ky
open PySem PySem.Spec L2
open PyProof.Rows hiding St
def dcStep (ct : Ct) (evc : En → Option (Bool × En)) (evk evv : En → Option (Sl × En)) (own : List Nat) : D → En → Option (Option (D × D) × En) :=
  fun d env => (bindT env ct d).bind fun env => (evc env).bind fun c => if c.1 then (evk c.2).bind fun r => if keyable r.1.dat then (evv r.2).bind fun q => if noDict q.1.dat then some (some (r.1.dat, q.1.dat), wipeE q.2 own) else none else none else some (none, wipeE c.2 own)
def evDc (ct : Ct) (evi : En → Option (List D × En)) (evc : En → Option (Bool × En)) (evk evv : En → Option (Sl × En)) (own : List Nat) : En → Option (Sl × En) := fun env => (evi env).bind fun x => if ownFree x.2 own then
      (dcLoop (dcStep ct evc evk evv own) x.1 (wipeE x.2 own) []).bind fun r => if r.1.length < SL then some (.ow (.dict r.1), unwipe r.2 x.2 own) else none
      else none
section
variable {K : PySem.W.Frag} {w : World} {kp : List Nat} {F F' F0 F1 F2 H H' H1 H2 : Hp} {env env0 env1 env2 env3 : En} {σ σ1 σ2 : L2.St} {own own1 : List Nat} {X : Cx} {e c : Expr} {O : Addr → Prop} {A : Addr} {ds : List (D × D)}
structure AccD (K : PySem.W.Frag) (w : World) (F1 H1 : Hp) (O : Addr → Prop) (A : Addr) (F : Hp) (env : En) (σ : L2.St) (H : Hp) (kvs : List (D × D)) : Prop where
  mv : Mv F1 H1 O F H
  rel : Rel K w F env σ H
  os : ∀ a, Own env σ a → O a
  acc : ∃ o, H A = some (RawO A o) ∧ DicR K w F o kvs
  fr : F A = none
theorem AccD.not (h : AccD K w F1 H1 O A F env σ H ds) (hA : H1 A = none) (hO : ∀ a, O a → ∃ o, H1 a = some o) : ¬ Own env σ A := fun z => by
  obtain ⟨o, q⟩ := hO A (h.os A z)
  rw [hA] at q; cases q
theorem AccD.step (h : AccD K w F1 H1 O A F env σ H ds) (hA : H1 A = none) (hO : ∀ a, O a → ∃ o, H1 a = some o) (st : Stq K w F env σ H env2 σ2 F2 H2) (os : ∀ a, Own env2 σ2 a → Own env σ a) : AccD K w F1 H1 O A F2 env2 σ2 H2 ds := by
  have nA := h.not hA hO
  obtain ⟨o, hv, dp⟩ := h.acc
  refine ⟨h.mv.trans st.mv fun c z => .inl (h.os c z), st.rel, fun a z => h.os a (os a z), ⟨o, st.mv.fr A _ hv nA, dp.mono st.mv.ff⟩, ?_⟩
  cases q : F2 A with
  | none => rfl
  | some o =>
    have := st.mv.nw A _ hv nA o q
    rw [h.fr] at this; cases this
theorem AccD.wipe (h : AccD K w F1 H1 O A F env σ H ds) : AccD K w F1 H1 O A F (wipeE env own) (L2.wipe σ own) H ds := ⟨h.mv, h.rel.wipe, fun a z => h.os a z.unw, h.acc, h.fr⟩
theorem AccD.put {o' : Obj} {ds' : List (D × D)} (h : AccD K w F1 H1 O A F env σ H ds) (hA : H1 A = none) (hO : ∀ a, O a → ∃ o, H1 a = some o) (hd : DicR K w F o' ds') : AccD K w F1 H1 O A F env σ (upd H A (RawO A o')) ds' := by
  have nA := h.not hA hO
  refine ⟨⟨h.mv.ff, fun b o e n => ?_, h.mv.nw, fun b o e => ?_⟩, ⟨fun b o e => ?_, h.rel.len, fun i s e => ?_, h.rel.apart⟩, h.os, ⟨_, upd_same, hd⟩, h.fr⟩
  · rw [upd_ne (ne_of_none e hA)]; exact h.mv.fr b o e n
  · rw [upd_ne (ne_of_none e hA)]; exact h.mv.dm b o e
  · rw [upd_ne (ne_of_none e h.fr)]; exact h.rel.sub b o e
  · rcases h.rel.slot i s e with z | ⟨v, h1, h2⟩
    · exact .inl z
    · refine .inr ⟨v, h1, ?_⟩
      cases s with
      | emp => exact h2
      | fz d => exact h2
      | ow d =>
        by_cases hm : isMut d = true
        · rw [Rs.own_mut hm] at h2 ⊢
          obtain ⟨b, o, ev, n, q, rr⟩ := h2
          subst ev
          have hb : b ≠ A := fun z => by
            subst z
            exact nA ⟨i, d, e, hm, h1⟩
          exact ⟨b, o, rfl, n, by rw [upd_ne hb]; exact q, rr⟩
        · rw [Rs.own_imm hm] at h2 ⊢
          exact h2
theorem dput_ge (kvs : List (D × D)) (k d : D) : kvs.length ≤ (dput kvs k d).length := by
  unfold dput
  split <;> simp
theorem dcLoop_ge {step : D → En → Option (Option (D × D) × En)} : ∀ {xs : List D} {env : En} {acc : List (D × D)} {r : List (D × D) × En}, dcLoop step xs env acc = some r → acc.length ≤ r.1.length
  | [], _, _, _, h => by cases h; exact Nat.le_refl _
  | x :: xs, env, acc, r, h => by
    obtain ⟨p, e1, h⟩ := Option.bind_eq_some_iff.mp h
    have := dcLoop_ge h
    obtain ⟨o, env2⟩ := p
    cases o with
    | none => exact this
    | some q => exact Nat.le_trans (dput_ge acc q.1 q.2) this
theorem dc_imp {ct : Ct} {evi : En → Option (List D × En)} {evc : En → Option (Bool × En)} {evk evv : En → Option (Sl × En)} (hct : ∀ i ∈ ct.slots, i ∈ own) (σ : L2.St) (H : Hp) (Q : VK) (h : tO K w (evDc ct evi evc evk evv own) σ H Q) :
    tDcR K w (tI K w evi) (gT K w ct) (tC' K w evc) (tF K w evk) (tF K w evv) own σ H Q := by
  obtain ⟨F, env, s, env9, r, q, k⟩ := h
  obtain ⟨x, q1, q⟩ := Option.bind_eq_some_iff.mp q
  obtain ⟨xs, env1⟩ := x
  split at q
  · rename_i hfr
    obtain ⟨rr, q2, q⟩ := Option.bind_eq_some_iff.mp q
    obtain ⟨total, envF⟩ := rr
    split at q
    · rename_i hsz
      cases q
      simp only at q1 q2 hfr k hsz ⊢
      refine ⟨F, env, xs, env1, r, q1, fun J F1 H1 st ok A hA => ?_⟩
      have r1 := st.rel
      have hO : ∀ a, Own env1 σ a → ∃ o, H1 a = some o := fun a z => (r1.own z).2
      refine ⟨fun i m H' => m = xs.length - i ∧ i ≤ xs.length ∧ ∃ F' env' ds, AccD K w F1 H1 (Own env1 σ) A F' env' (L2.wipe σ own) H' ds ∧ dcLoop (dcStep ct evc evk evv own) (xs.drop i) env' ds = some (total, envF), ⟨xs.length, by simp, Nat.zero_le _, F1, wipeE env1 own, [], ?_, q2⟩, ?_⟩
      · have pe := PExt.own (o := RawO A eDict) r1.sub hA
        exact ⟨pe.mv, (r1.ext pe).wipe, fun a z => z.unw, ⟨eDict, upd_same, eDict_ok⟩, Same.free r1.sub hA⟩
      · rintro i m H' ⟨rfl, hil, F', env', ds, inv, ql⟩
        by_cases hlt : i < xs.length
        · refine .inr ?_
          have hx : xs[i]? = some xs[i] := List.getElem?_eq_getElem hlt
          obtain ⟨hgo, hy⟩ := ok.step F' H' i _ inv.mv.ff inv.rel.sub hx
          rw [List.drop_eq_getElem_cons hlt] at ql
          obtain ⟨p, qs, ql2⟩ := Option.bind_eq_some_iff.mp ql
          obtain ⟨o, env2⟩ := p
          obtain ⟨env3, qb, qs⟩ := Option.bind_eq_some_iff.mp qs
          obtain ⟨cc, qc, qs⟩ := Option.bind_eq_some_iff.mp qs
          obtain ⟨cb, env4⟩ := cc
          refine ⟨hgo, fun H2 => ∃ F2 env2 ds2, AccD K w F1 H1 (Own env1 σ) A F2 env2 (L2.wipe σ own) H2 ds2 ∧ dcLoop (dcStep ct evc evk evv own) (xs.drop (i + 1)) env2 ds2 = some (total, envF), fun H2 n => ⟨xs.length - (i + 1), by omega, rfl, hlt, n⟩, fun y H2 hyl => ?_⟩
          obtain ⟨F2, pe, dp⟩ := hy y H2 hyl
          have r2 := inv.rel.ext pe
          refine ⟨F2, env', xs[i], env3, r2, .dat dp, qb, fun σ3 s3 => ?_⟩
          have hw3 : L2.wipe σ3 own = L2.wipe σ own := by
            rw [wipe_eq (own := own) s3.len fun j hj => s3.ne j fun z => hj (hct j z)]
            exact wipe_wipe
          refine ⟨hw3, F2, env3, cb, env4, s3.st.rel, qc, fun F4 H4 st4 => ?_⟩
          have st34 : Stq K w F' env' (L2.wipe σ own) H' env4 σ3 F4 H4 := ((((Stp.refl inv.rel).ext pe).q).trans s3.st).trans st4.q
          have os34 : ∀ a, Own env4 σ3 a → Own env' (L2.wipe σ own) a := fun a z => s3.owns (st4.os a z)
          have inv4 := inv.step hA hO st34 os34
          cases cb with
          | false =>
            (try dsimp only); rw [if_neg Bool.false_ne_true]
            have qs' : some (none, wipeE env4 own) = some (o, env2) := qs
            cases qs'
            exact ⟨F4, wipeE env4 own, ds, hw3 ▸ inv4.wipe, ql2⟩
          | true =>
            (try dsimp only); rw [if_pos rfl]
            obtain ⟨kk, qk, qs⟩ := Option.bind_eq_some_iff.mp (show (evk env4).bind _ = some (o, env2) from qs)
            split at qs
            · rename_i hkey
              obtain ⟨vv, qv, qs⟩ := Option.bind_eq_some_iff.mp qs
              split at qs
              · rename_i hnd
                cases qs
                refine ⟨F4, env4, kk.1, kk.2, st4.rel, qk, fun yk F5 H5 f5 => ⟨F5, kk.2, vv.1, vv.2, f5.st.rel, qv, fun yv F6 H6 f6 => ?_⟩⟩
                have inv6 := (inv4.step hA hO f5.st.q f5.st.os).step hA hO f6.st.q f6.st.os
                obtain ⟨o6, ho6, hd6⟩ := inv6.acc
                have hlen : ds.length < SL := by
                  have h1 := dput_ge ds kk.1.dat vv.1.dat
                  have h2 := dcLoop_ge ql2
                  have h3 : (dput ds kk.1.dat vv.1.dat).length ≤ total.length := h2
                  omega
                exact ⟨o6, F6, ds, kk.1.dat, vv.1.dat, ho6, f6.st.rel.sub, hd6, f5.val.mono f6.st.mv.ff, hkey, f6.val.dp hnd, hlen, fun o' hd' => ⟨F6, wipeE vv.2 own, _, hw3 ▸ (inv6.put hA hO hd').wipe, ql2⟩⟩
              · cases qs
            · cases qs
        · have ei : i = xs.length := by omega
          subst ei
          rw [List.drop_length] at ql
          cases ql
          refine .inl ⟨ok.stop F' H' inv.mv.ff inv.rel.sub, k _ F' H' ?_⟩
          obtain ⟨o, ho, hd⟩ := inv.acc
          have rF := r1.unwipe inv.rel hfr inv.mv.ff
          refine ⟨⟨st.mv.trans inv.mv fun c z => .inl (st.os c z), rF, fun a ⟨i, z⟩ => st.os a (inv.os a ⟨i, z.unun hfr⟩)⟩, ?_, fun d a e m ev => ?_⟩
          · show Rs K w F' H' (.ref A) (.ow (.dict total))
            rw [Rs.own_mut rfl]
            exact ⟨A, _, rfl, inv.fr, ho, .dic hd⟩
          · cases ev
            exact st.new hA
    · cases q
  · cases q
end
end Ky
end

section
set_option autoImplicit false
set_option linter.all false
set_option maxRecDepth 100000
set_option Elab.async false
/-! a, b = x, y. -/
namespace Ky
open PySem PySem.Spec L2
open PyProof.Rows hiding St
section
variable {K : PySem.W.Frag} {w : World} {kp : List Nat} {F F' F0 F1 F2 H H' H1 H2 : Hp} {env env1 env2 env3 : En} {σ σ1 σ2 : L2.St} {X : Cx} {pins : List (Addr × Obj)} {s : Shared} {kk : Nat} {a b c e tg : Expr} {es : List Expr} {pos : Pos} {st : Stmt} {rest : List Stmt} {o : Oc}
/-- the addresses of the values that are own objects -/
def ownV (v : V) (s : Sl) : List Addr := match v, s with
  | .ref a, .ow d => if isMut d = true then [a] else []
  | _, _ => []
def ownA : List V → List Sl → List Addr
  | v :: vs, s :: ss => ownV v s ++ ownA vs ss
  | _, _ => []
theorem own_one {v : V} {s : Sl} {a : Addr} (h : a ∈ ownV v s) : ∃ d, s = .ow d ∧ isMut d = true ∧ v = .ref a := by
  unfold ownV at h
  split at h
  · rename_i b d
    split at h
    · rename_i hm
      have := List.mem_singleton.mp h
      subst this
      exact ⟨d, rfl, hm, rfl⟩
    · cases h
  · cases h
theorem own_of {a : Addr} {d : D} (m : isMut d = true) : a ∈ ownV (.ref a) (.ow d) := by simp [ownV, m]
theorem ownV_nodup (v : V) (s : Sl) : (ownV v s).Nodup := by
  unfold ownV
  split
  · split
    · simp
    · simp
  · simp
inductive RsAll (K : PySem.W.Frag) (w : World) (F H : Hp) : List V → List Sl → Prop
  | nil : RsAll K w F H [] []
  | cons {v : V} {s : Sl} {vs : List V} {ss : List Sl} : Rs K w F H v s → RsAll K w F H vs ss → RsAll K w F H (v :: vs) (s :: ss)
def tSs (K : PySem.W.Frag) (w : World) (ev : En → Option (List Sl × En)) : TA := fun σ H Q => ∃ F env ss env1, Rel K w F env σ H ∧ ev env = some (ss, env1) ∧
  ∀ vs F' H', Stp K w F env σ H env1 F' H' → RsAll K w F' H' vs ss → (∀ a ∈ ownA vs ss, H a = none) → (ownA vs ss).Nodup → Q vs H'
theorem e_th {ev : En → Option (Sl × En)} (own : Bool) (h : PE X e (tO X.K X.w ev)) : PE X e (tO X.K X.w fun env => (ev env).map fun x => (if own then x.1 else x.1.thaw, x.2)) := h.weak fun σ H Q ⟨F, env, s, env1, r, q, k⟩ => by
  obtain ⟨x, e1, z⟩ := Option.map_eq_some_iff.mp q
  cases z
  refine ⟨F, env, x.1, x.2, r, e1, fun v F' H' p => ?_⟩
  cases own with
  | true => exact k v F' H' p
  | false =>
    obtain ⟨F2, p2⟩ := p.thaw r
    exact k v F2 H' p2
theorem Rs.stp {v : V} {s : Sl} (h : Rs K w F H v s) (st : Stp K w F env σ H env1 F' H') (no : ∀ d a, s = .ow d → isMut d = true → v = .ref a → ¬ Own env σ a) : Rs K w F' H' v s := by
  cases s with
  | emp => exact h
  | fz d => exact Rv.mono st.mv.ff h
  | ow d =>
    by_cases hm : isMut d = true
    · rw [Rs.own_mut hm] at h ⊢
      obtain ⟨b, o, ev, n, q, rr⟩ := h
      have nb := no d b rfl hm ev
      refine ⟨b, o, ev, ?_, st.mv.fr b o q nb, rr.mono st.mv.ff⟩
      cases z : F' b with
      | none => rfl
      | some o' =>
        have := st.mv.nw b o q nb o' z
        rw [n] at this; cases this
    · rw [Rs.own_imm hm] at h ⊢
      exact Rv.mono st.mv.ff h
theorem ss_nil : PA X [] (tSs X.K X.w fun env => some ([], env)) := pa_nil.weak fun σ H Q ⟨F, env, ds, env1, r, q, k⟩ => by
  cases q
  exact k [] F H (Stp.refl r) .nil (fun a h => nomatch h) List.nodup_nil
theorem ss_cons {ev : En → Option (Sl × En)} {evs : En → Option (List Sl × En)} (he : PE X e (tO X.K X.w ev)) (hr : PA X es (tSs X.K X.w evs)) (hs : starEach (e :: es) X.env = (false, eval e X.env) :: starEach es X.env) :
    PA X (e :: es) (tSs X.K X.w fun env => (ev env).bind fun x => (evs x.2).map fun y => (x.1 :: y.1, y.2)) := (pa_cons he hr hs).weak fun σ H Q ⟨F, env, ds, env1, r, q, k⟩ => by
  obtain ⟨x, e1, q⟩ := Option.bind_eq_some_iff.mp q
  obtain ⟨y, e2, z⟩ := Option.map_eq_some_iff.mp q
  cases z
  refine ⟨F, env, x.1, x.2, r, e1, fun v F' H' p => ⟨F', x.2, y.1, y.2, p.st.rel, e2, fun vs F2 H2 st2 rv2 hn nd => ?_⟩⟩
  have noOwn : ∀ d a, x.1 = .ow d → isMut d = true → v = .ref a → ¬ Own x.2 σ a := fun d a ed m ev ho => by
    obtain ⟨_, o3, q3⟩ := r.own (p.st.os a ho)
    rw [p.new d a ed m ev] at q3
    cases q3
  refine k (v :: vs) F2 H2 (p.st.trans st2) (.cons (p.val.stp st2 noOwn) rv2) (fun a ha => ?_) ?_
  · rcases List.mem_append.mp ha with h | h
    · obtain ⟨d, es, hm, ev⟩ := own_one h
      exact p.new d a es hm ev
    · exact p.st.new (hn a h)
  · refine List.nodup_append.mpr ⟨ownV_nodup v x.1, nd, fun a ha b hb e => ?_⟩
    subst e
    obtain ⟨d, es, hm, ev⟩ := own_one ha
    have hv := p.val
    rw [es, Rs.own_mut hm] at hv
    obtain ⟨c, o, ec, n, q, _⟩ := hv
    rw [ev] at ec
    cases ec
    have := hn a hb
    rw [q] at this; cases this
/-- all are stored -/
def setAll : List (Nat × Bool) → List V → L2.St → L2.St
  | (i, _) :: is, v :: vs, σ => setAll is vs (σ.set i (some v))
  | _, _, σ => σ
theorem Rel.set1 {i : Nat} {s : Sl} {v : V} (r : Rel K w F env σ H) (h : Rs K w F H v s) (no : ∀ d a, s = .ow d → isMut d = true → v = .ref a → ¬ Own env σ a) :
    Rel K w F (env.set i s) (σ.set i (some v)) H ∧ ∀ a, Own (env.set i s) (σ.set i (some v)) a → Own env σ a ∨ a ∈ ownV v s := by
  by_cases hi : i < σ.length
  · have hi1 : i < env.length := by rw [r.len]; exact hi
    have own_back : ∀ j c, OwnI (env.set i s) (σ.set i (some v)) j c → (j = i ∧ (∃ d, s = .ow d ∧ isMut d = true) ∧ v = .ref c) ∨ (j ≠ i ∧ OwnI env σ j c) := fun j c ⟨dj, ej, mj, sj⟩ => by
      by_cases hj : j = i
      · subst hj
        rw [List.getElem?_set_self hi1] at ej
        rw [List.getElem?_set_self hi] at sj
        cases ej
        cases sj
        exact .inl ⟨rfl, ⟨dj, rfl, mj⟩, rfl⟩
      · rw [List.getElem?_set_ne (Ne.symm hj)] at ej sj
        exact .inr ⟨hj, dj, ej, mj, sj⟩
    refine ⟨⟨r.sub, by rw [List.length_set, List.length_set]; exact r.len, fun j sj ej => ?_, fun j k c h1 h2 => ?_⟩, fun c ⟨j, h1⟩ => ?_⟩
    · by_cases hj : j = i
      · subst hj
        rw [List.getElem?_set_self hi1] at ej
        cases ej
        exact .inr ⟨v, List.getElem?_set_self hi, h⟩
      · rw [List.getElem?_set_ne (Ne.symm hj)] at ej
        rw [List.getElem?_set_ne (Ne.symm hj)]
        exact r.slot j sj ej
    · rcases own_back j c h1 with ⟨e1, ⟨d1, e2, m1⟩, ev1⟩ | ⟨n1, o1⟩
      · rcases own_back k c h2 with ⟨e3, _, _⟩ | ⟨n2, o2⟩
        · rw [e1, e3]
        · exact (no d1 c e2 m1 ev1 ⟨k, o2⟩).elim
      · rcases own_back k c h2 with ⟨e3, ⟨d2, e4, m2⟩, ev2⟩ | ⟨n2, o2⟩
        · exact (no d2 c e4 m2 ev2 ⟨j, o1⟩).elim
        · exact r.apart j k c o1 o2
    · rcases own_back j c h1 with ⟨_, ⟨d1, e2, m1⟩, ev1⟩ | ⟨_, o1⟩
      · subst e2 ev1
        exact .inr (own_of m1)
      · exact .inl ⟨j, o1⟩
  · rw [List.set_eq_of_length_le (l := σ) (by omega), List.set_eq_of_length_le (l := env) (by rw [r.len]; omega)]
    exact ⟨r, fun a h => .inl h⟩
theorem ownA_cons (v : V) (s : Sl) (vs : List V) (ss : List Sl) : ownA (v :: vs) (s :: ss) = ownV v s ++ ownA vs ss := rfl
theorem storeS_ok : ∀ {is : List (Nat × Bool)} {vs : List V} {ss : List Sl} {env env1 : En} {σ : L2.St}, Rel K w F env σ H → RsAll K w F H vs ss → (∀ a ∈ ownA vs ss, ¬ Own env σ a) → (ownA vs ss).Nodup → storeS env is ss = some env1 →
    vs.length = is.length ∧ Rel K w F env1 (setAll is vs σ) H ∧ ∀ a, Own env1 (setAll is vs σ) a → Own env σ a ∨ a ∈ ownA vs ss
  | [], _, _, env, env1, σ, r, .nil, _, _, e => by cases e; exact ⟨rfl, r, fun a h => .inl h⟩
  | [], _, _, _, _, _, _, .cons _ _, _, _, e => by simp [storeS] at e
  | _ :: _, _, _, _, _, _, _, .nil, _, _, e => by simp [storeS] at e
  | (i, f) :: is, _, _, env, env1, σ, r, .cons (v := v) (s := s) (vs := vs) (ss := ss) h t, no, nd, e => by
    have e : storeS (env.set i s) is ss = some env1 := e
    rw [ownA_cons] at no nd
    obtain ⟨r1, o1⟩ := r.set1 (i := i) h fun d a es m ev => no a (List.mem_append_left _ (by subst es ev; exact own_of m))
    have nd2 := List.nodup_append.mp nd
    obtain ⟨l2, r2, o2⟩ := storeS_ok r1 t (fun a ha z => by
      rcases o1 a z with z | z
      · exact no a (List.mem_append_right _ ha) z
      · exact nd2.2.2 a z a ha rfl) nd2.2.1 e
    refine ⟨by simp [l2], r2, fun a z => ?_⟩
    rw [ownA_cons]
    rcases o2 a z with z | z
    · rcases o1 a z with z | z
      · exact .inl z
      · exact .inr (List.mem_append_left _ z)
    · exact .inr (List.mem_append_right _ z)
theorem setAll_kept : ∀ {is : List (Nat × Bool)} {vs : List V} {σ : L2.St}, (∀ p ∈ is, p.1 ∉ kp) → Kept kp σ (setAll is vs σ)
  | [], _, _, _ => by unfold setAll; exact .refl
  | (i, f) :: is, [], _, _ => by unfold setAll; exact .refl
  | (i, f) :: is, v :: vs, σ, h => (Kept.set (h _ (List.mem_cons_self ..))).trans (setAll_kept fun p hp => h p (List.mem_cons_of_mem _ hp))
theorem tSs_mono {ev : En → Option (List Sl × En)} {Q Q' : List V → Hp → Prop} (h : ∀ vs H', Q vs H' → Q' vs H') (q : tSs K w ev σ H Q) : tSs K w ev σ H Q' :=
  let ⟨F, env, x, env1, r, q, k⟩ := q
  ⟨F, env, x, env1, r, q, fun v F' H' a b c d => h v H' (k v F' H' a b c d)⟩
/-- a reading of the statement that stores all -/
def tPa (K : PySem.W.Frag) (w : World) (is : List (Nat × Bool)) (evs : En → Option (List Sl × En)) : TS := fun D σ H => tSs K w evs σ H fun vs H1 => vs.length = is.length ∧ D.nx (setAll is vs σ) H1 ∧ ∀ p, H1 p = none → D.nx (setAll is vs σ) (upd H1 p (.tup vs))
/-- the statement, off such a reading -/
theorem s_parG {is : List (Nat × Bool)} {evs : En → Option (List Sl × En)} (h : PS X st (tPa X.K X.w is evs)) (hd : ∀ p ∈ is, p.1 ∉ kp) :
    PS X st (tS X.K X.w kp fun env => (evs env).bind fun x => (storeS x.2 is x.1).map fun env => (.nx, env)) := h.weak fun D σ H ⟨F, env, o, env1, r, q, k⟩ => by
  obtain ⟨x, e1, q⟩ := Option.bind_eq_some_iff.mp q
  obtain ⟨y, e2, z⟩ := Option.map_eq_some_iff.mp q
  cases z
  refine ⟨F, env, x.1, x.2, r, e1, fun vs F' H' st rv hn nd => ?_⟩
  have noO : ∀ a ∈ ownA vs x.1, ¬ Own x.2 σ a := fun a ha z => by
    obtain ⟨_, o3, q3⟩ := r.own (st.os a z)
    rw [hn a ha] at q3
    cases q3
  obtain ⟨hl, r2, o2⟩ := storeS_ok st.rel rv noO nd e2
  have sq : Stq X.K X.w F env σ H env1 (setAll is vs σ) F' H' := ⟨st.mv, r2, fun a z => by
    rcases o2 a z with z | z
    · exact .inl (st.os a z)
    · exact .inr (hn a z)⟩
  refine ⟨hl, k _ F' H' sq (setAll_kept hd), fun p hp => ?_⟩
  have pe := PExt.own (o := .tup vs) r2.sub hp
  exact k _ F' _ (sq.trans (((Stp.refl r2).ext pe).q)) (setAll_kept hd)
theorem s_par2 {i j : Nat} {x y : Str} {f g : Bool} {evs : En → Option (List Sl × En)} {px py pt : Pos} {kt k2 : Nat} {pt2 : Pos} (hc : X.calm = true) (hN : X.N.Nodup) (hi : X.N[i]? = some x) (hj : X.N[j]? = some y) (hij : i ≠ j)
    (hx : X.env.scope.names.lookup x = some .local) (hy : X.env.scope.names.lookup y = some .local) (ha : PA X [a, b] (tSs X.K X.w evs))
    (hw : swappedStores [.Tuple [.Name x px, .Name y py] kt pt] (.Tuple [a, b] k2 pt2) X.env = pure (some [x, y])) :
    PS X (.Assign [.Tuple [.Name x px, .Name y py] kt pt] (.Tuple [a, b] k2 pt2) pos) (tPa X.K X.w [(i, f), (j, g)] evs) :=
  (ps_par hc hN hi hj hij hx hy ha hw rfl).weak fun D σ H h => tSs_mono (fun vs H1 ⟨hl, hq, _⟩ => by
    match vs, hl, hq with
    | [v, w], _, hq => exact ⟨v, w, rfl, hq⟩) h
theorem s_par3 {i j l : Nat} {x y z : Str} {f g f2 : Bool} {evs : En → Option (List Sl × En)} {px py pz pt : Pos} {kt k2 : Nat} {pt2 : Pos} (hc : X.calm = true) (hN : X.N.Nodup) (hi : X.N[i]? = some x) (hj : X.N[j]? = some y) (hl : X.N[l]? = some z) (hij : i ≠ j) (hil : i ≠ l) (hjl : j ≠ l)
    (hx : X.env.scope.names.lookup x = some .local) (hy : X.env.scope.names.lookup y = some .local) (hz : X.env.scope.names.lookup z = some .local) (ha : PA X [a, b, c] (tSs X.K X.w evs))
    (hw : swappedStores [.Tuple [.Name x px, .Name y py, .Name z pz] kt pt] (.Tuple [a, b, c] k2 pt2) X.env = pure (some [x, y, z])) :
    PS X (.Assign [.Tuple [.Name x px, .Name y py, .Name z pz] kt pt] (.Tuple [a, b, c] k2 pt2) pos) (tPa X.K X.w [(i, f), (j, g), (l, f2)] evs) :=
  (ps_par3 hc hN hi hj hl hij hil hjl hx hy hz ha hw rfl).weak fun D σ H h => tSs_mono (fun vs H1 ⟨hl, hq, _⟩ => by
    match vs, hl, hq with
    | [u, v, w], _, hq => exact ⟨u, v, w, rfl, hq⟩) h
/-- names, one after another, whatever comes -/
def gAll (is : List (Nat × Bool)) : TGs := fun ys σ H Q => ys.length = is.length ∧ Q (setAll is ys σ) H
theorem ga_nil : PGs X [] (gAll []) := ⟨fun pins s σ H vs us Q I r ⟨hl, q⟩ => by
  have e : vs = [] := List.length_eq_zero_iff.mp hl
  subst e
  exact pgs_nil.run pins s σ H [] us Q I r ⟨rfl, q⟩⟩
theorem ga_cons {i : Nat} {f : Bool} {is : List (Nat × Bool)} {x : Str} {es : List Expr} (hN : X.N.Nodup) (hi : X.N[i]? = some x) (hx : Loc X.env.scope x) (hf : X.fn x = true ∨ X.env.scope.names.lookup x = some .local) (h : PGs X es (gAll is)) : PGs X (.Name x pos :: es) (gAll ((i, f) :: is)) := by
  refine ⟨fun pins s σ H vs us Q I r ⟨hl, q⟩ => ?_⟩
  cases vs with
  | nil => cases hl
  | cons v vs => exact (pgs_cons (pg_name (pos := pos) hN hi hx hf) h rfl).run pins s σ H _ us Q I r ⟨v, vs, rfl, by simpa using hl, q⟩
theorem s_parT {is : List (Nat × Bool)} {ts : List Expr} {evs : En → Option (List Sl × En)} {kt k2 : Nat} {pt pt2 : Pos} (hc : X.calm = true) (hg : PGs X ts (gAll is)) (hn : (assignEach ts X.env).length = is.length) (hst : (assignEach ts X.env).findIdx? (·.1) = none) (ha : PA X es (tSs X.K X.w evs)) (hl : is.length ≤ 100)
    (hw : swappedStores [.Tuple ts kt pt] (.Tuple es k2 pt2) X.env = pure none) :
    PS X (.Assign [.Tuple ts kt pt] (.Tuple es k2 pt2) pos) (tPa X.K X.w is evs) :=
  (ps_asg (pe_tup ha) (pg_tup (n := is.length) hc hg hn hst) rfl hw rfl).weak fun D σ H h => tSs_mono (fun vs H1 ⟨hv, _, hq⟩ => ⟨by rw [hv]; exact Nat.le_trans hl (by decide), fun p hp => ⟨p, vs, rfl, SqT.of upd_same, hv, hv, hq p hp⟩⟩) h
end
end Ky
end

section
set_option autoImplicit false
set_option linter.all false
set_option maxRecDepth 100000
set_option Elab.async false
/-! dict(a list of pairs). -/
namespace Ky
open PySem PySem.Spec L2
open PyProof.Rows hiding St
section
variable {X : Cx} {pins : List (Addr × Obj)} {σ : L2.St} {H F : Hp} {s : Shared} {K : PySem.W.Frag} {w : World} {kk : Nat}
theorem Ent.storedAll : ∀ {ps acc : List (NestedKey × Addr × Value)} {kvs lvs : List (D × D)}, Ent K F acc lvs → Ent K F ps kvs → Ent K F (storedAllH acc ps) (dmerge lvs kvs)
  | _, _, _, _, h, .nil => h
  | _, _, _, _, h, .cons (xs := xs) (kvs := kvs) h1 h2 h3 h4 t => by
    show Ent K F (storedAllH (storedH _ _ _ _) xs) (dmerge (dput _ _ _) kvs)
    exact Ent.storedAll (h.stored h1 h2 h3 h4) t
theorem dmerge_length : ∀ (kvs lvs : List (D × D)), (dmerge lvs kvs).length ≤ lvs.length + kvs.length
  | [], lvs => Nat.le_refl _
  | (k, v) :: r, lvs => by
    show (dmerge (dput lvs k v) r).length ≤ _
    have h1 := dmerge_length r (dput lvs k v)
    have h2 := dput_length lvs k v
    rw [List.length_cons]
    omega
theorem pairs_got (I : Inv X pins σ H s) (sub : Same F H) : ∀ {ds : List D} {vs : List V} {kvs : List (D × D)}, pairsOf ds = some kvs → DpAll X.K F vs ds →
    ∃ (ts : List Addr) (prs : List (Value × Value)) (ps : List (NestedKey × Addr × Value)), vs = ts.map V.ref ∧ prs.length = ts.length ∧ ps.length = ts.length ∧ kvs.length = ts.length ∧ Ent X.K F ps kvs ∧
      ∀ (j : Nat) (k v : Value), prs[j]? = some (k, v) → ∃ (b t : Addr) (n : NestedKey), ts[j]? = some t ∧ ps[j]? = some (n, b, v) ∧ k = .ref b ∧ PairAt s.heap t k v
  | [], _, _, h, .nil => by
    cases h
    exact ⟨[], [], [], rfl, rfl, rfl, rfl, .nil, fun j k v e => by simp at e⟩
  | d :: ds, _, kvs, h, .cons (v := v) (vs := vs) hd t => by
    unfold pairsOf at h
    split at h
    · contradiction
    · rename_i a b r e
      cases e
      split at h
      · rename_i hk
        obtain ⟨kvs', e2, e3⟩ := Option.map_eq_some_iff.mp h
        subst e3
        obtain ⟨ts, prs, ps, i1, i2, i3, i4, i5, i6⟩ := pairs_got I sub e2 t
        cases hd with
        | tup hs ha =>
          rename_i p xs
          cases ha with
          | cons h1 t1 =>
            cases t1 with
            | cons h2 t2 =>
              cases t2
              rename_i y z
              obtain ⟨c, ey, hy⟩ := Rv.key (w := X.w) hk (.dat h1)
              subst ey
              obtain ⟨its, rv, hp, _⟩ := I.tuple (sub.seqT hs)
              cases rv with
              | cons r1 rt =>
                cases rt with
                | cons r2 rn =>
                  cases rn
                  cases r1
                  rename_i u2
                  refine ⟨p :: ts, (.ref c, u2) :: prs, (nk a, c, u2) :: ps, by rw [i1]; rfl, by simp [i2], by simp [i3], by simp [i4], .cons hk hy r2 h2 i5, fun j k v e => ?_⟩
                  cases j with
                  | zero =>
                    cases e
                    exact ⟨c, p, nk a, rfl, rfl, rfl, .inl hp⟩
                  | succ j => exact i6 j k v (by simpa using e)
      · cases h
    · cases h
theorem PPost.dic {p : Addr} {o : Obj} {kvs : List (D × D)} (sub : Same F H) (hp : H p = none) (h : DicR K w F o kvs) : PPost K w F H true (.dict kvs) (.ref p) F (upd H p (RawO p o)) := by
  refine ⟨PExt.own sub hp, ?_, fun _ _ a e => by cases e; exact hp⟩
  show Rs K w F _ (.ref p) (.ow (.dict kvs))
  rw [Rs.own_mut rfl]
  exact ⟨p, _, rfl, Same.free sub hp, upd_same, .dic h⟩
theorem r_dct (hr : Room kk X.A) (hc : X.calm = true) : CallR X (.type "dict") (one1 (sem1 X.K X.w .dct)) := fun pins s σ H xs us Q I rx ⟨x, ex, F, d, r, sub, hv, e, k⟩ => by
  subst ex
  cases d <;> simp only [f1, reduceCtorEq] at e
  rename_i ds
  obtain ⟨kvs, e1, z⟩ := Option.map_eq_some_iff.mp e
  subst z
  obtain ⟨a, ys, ev, hs, ha⟩ := hv.list sub rfl
  subst ev
  obtain ⟨u, eu, ru⟩ := vals1 rx
  subst eu
  cases ru
  obtain ⟨its, rv, pl, hz⟩ := I.list hs
  obtain ⟨ts, prs, ps, i1, i2, i3, i4, i5, i6⟩ := pairs_got I sub e1 ha
  subst i1
  have ei := refs_at rv
  subst ei
  rw [List.length_map] at hz
  obtain ⟨o, n, ho, hc', hd, hdat⟩ := pl
  have hns : (s.heap.objs.size == sysModules) = false := beq_eq_false_iff_ne.mpr (Nat.ne_of_gt I.big)
  refine call_dict_pairsH (knd := nestedKind X.prog X.w) (ps := ps) (PairArg.list a _ (fun j => ts.getD j 0) prs) (I.ok.hd hc) (room8 hr) ⟨⟨o, n, ho, hc', hd, hdat⟩, by simp [i2], fun j k v ej => ?_⟩ ⟨by rw [i3, i2], fun j k v ej => ?_⟩ (fun h' hk x hx => ?_) (by rw [i2]; exact hz) fun h' tk hd' hk => ?_
  · obtain ⟨b, t, n, j1, j2, j3, j4⟩ := i6 j k v ej
    have et : ts.getD j 0 = t := by rw [List.getD_eq_getElem?_getD, j1]; rfl
    show _ = some (Value.ref (ts.getD j 0)) ∧ PairAt s.heap (ts.getD j 0) k v
    rw [et]
    exact ⟨by simp [j1], j4⟩
  · obtain ⟨b, t, n, j1, j2, j3, j4⟩ := i6 j k v ej
    exact ⟨n, b, j2, j3⟩
  · exact nestedKind_stays.stays (fun b o vs n e q => hk b o (Nat.ne_of_lt (Heap.lt_size e)) (fun z => nomatch z) e) (i5.are I sub x hx)
  · have hl : (dmerge [] kvs).length ≤ SL := by
      have h1 := dmerge_length kvs []
      rw [List.length_nil, Nat.zero_add, i4] at h1
      rw [SL_eq]
      omega
    obtain ⟨o', ho', hd2⟩ := DicR.of hd' (Ent.storedAll .nil i5) hl
    exact ⟨.ref s.heap.objs.size, upd H s.heap.objs.size (RawO s.heap.objs.size o'), I.laid (t' := tk) (fun b o e => hk b o (fun z => nomatch z) e) (Nat.le_refl _) (rawO_ok ho' hns), rfl, k _ _ _ (PPost.dic sub (I.hok.fresh (Nat.le_refl _)) hd2)⟩
end
end Ky
end

section
set_option autoImplicit false
set_option linter.all false
set_option maxRecDepth 100000
set_option Elab.async false
/-! Dict displays: none, one entry. -/
namespace Ky
open PySem PySem.Spec L2
open PyProof.Rows hiding St
section
variable {K : PySem.W.Frag} {w : World} {X : Cx} {kk : Nat} {pos : Pos} {kx vx : Expr}
theorem e_dct0 : PE X (.Dict [] [] pos) (tO X.K X.w fun env => some (.ow (.dict []), env)) := ⟨fun pins s σ H Q I ⟨F, env, sl, env1, r, q, k⟩ => by
  cases q
  have hns : (s.heap.objs.size == sysModules) = false := beq_eq_false_iff_ne.mpr (Nat.ne_of_gt I.big)
  have hn := I.hok.fresh (Nat.le_refl s.heap.objs.size)
  exact wpAny_Dict_empty ⟨.ref s.heap.objs.size, _, I.laid (a := s.heap.objs.size) (o := RawO s.heap.objs.size eDict) (t' := s.toks) (fun _ _ q => Heap.get?_push_of_some _ q) (Nat.le_refl _) (rawO_ok (Heap.get?_push_size _ rfl) hns), rfl, k _ _ _ ((PPost.dic r.sub hn eDict_ok).post (Stp.refl r))⟩⟩
def evDct1 (evk evv : En → Option (Sl × En)) : En → Option (Sl × En) := fun env => (evk env).bind fun x => (evv x.2).bind fun y => if keyable x.1.dat && noDict y.1.dat then some (.ow (.dict [(x.1.dat, y.1.dat)]), y.2) else none
theorem e_dct1 {evk evv : En → Option (Sl × En)} (hr : Room kk X.A) (hk : PE X kx (tO X.K X.w evk)) (hv : PE X vx (tO X.K X.w evv)) : PE X (.Dict [some kx] [vx] pos) (tO X.K X.w (evDct1 evk evv)) := ⟨fun pins s σ H Q I ⟨F, env, sl, env1, r, q, k⟩ => by
  obtain ⟨x, q1, q⟩ := Option.bind_eq_some_iff.mp q
  obtain ⟨y, q2, q⟩ := Option.bind_eq_some_iff.mp q
  split at q
  · rename_i hc
    rw [Bool.and_eq_true] at hc
    cases q
    generalize hD : s.heap.objs.size = D
    have hn : H D = none := I.hok.fresh (Nat.le_of_eq hD)
    have hns : (D == sysModules) = false := by rw [← hD]; exact beq_eq_false_iff_ne.mpr (Nat.ne_of_gt I.big)
    have hO : ∀ a, Own env σ a → ∃ o, H a = some o := fun a z => (r.own z).2
    have pe := PExt.own (o := RawO D eDict) r.sub hn
    have I1 : Inv X pins σ (upd H D (RawO D eDict)) { s with heap := s.heap.push { cls := .type "dict", data := .dict #[] } } := by
      refine I.laid (a := D) (o := RawO D eDict) (t' := s.toks) (fun _ _ q => Heap.get?_push_of_some _ q) (Nat.le_of_eq hD) (rawO_ok ?_ hns)
      rw [← hD]; exact Heap.get?_push_size _ rfl
    have a0 : AccD X.K X.w F H (Own env σ) D F env σ (upd H D (RawO D eDict)) [] := ⟨pe.mv, r.ext pe, fun a z => z, ⟨eDict, upd_same, eDict_ok⟩, Same.free r.sub hn⟩
    refine wpAny_Dict_any rfl rfl (by simp) (by simp) (pairTrees_cons_walk (thn ((PE.frz hk).run pins _ σ _ (fun v H1 => ∃ F1, FPost X.K X.w F env σ (upd H D (RawO D eDict)) x.1.dat x.2 v F1 H1) I1 ⟨F, env, x.1, x.2, a0.rel, q1, fun v F' H' f => ⟨F', f⟩⟩) fun u s1 ⟨yk, H1, I2, rk, F1, f1⟩ =>
      thn ((PE.frz hv).run pins s1 σ H1 (fun v H2 => ∃ F2, FPost X.K X.w F1 x.2 σ H1 y.1.dat y.2 v F2 H2) I2 ⟨F1, x.2, y.1, y.2, f1.st.rel, q2, fun v F' H' f => ⟨F', f⟩⟩) fun u2 s2 ⟨yv, H2, I3, rv, F2, f2⟩ => pairTrees_nil_walk ?_))
    have a1 := a0.step hn hO f1.st.q f1.st.os
    have a2 := a1.step hn hO f2.st.q f2.st.os
    obtain ⟨o, ho, hd⟩ := a2.acc
    unfold storeAll
    rw [hD]
    simp only [List.forIn_cons, List.forIn_nil]
    refine wpAny_bind (wpAny_bind (dictSet_raw hr I3 f2.st.rel.sub ho hd rk rv (f1.val.mono f2.st.mv.ff) (f2.val.dp hc.2) hc.1 (by decide) fun o' hd' s' I' => ?_))
    refine wpAny_pure (wpAny_pure ?_)
    have a3 := a2.put hn hO hd'
    refine ⟨.ref D, _, I', rfl, k _ _ _ ⟨⟨a3.mv, a3.rel, a3.os⟩, ?_, fun d a e m ev => by cases ev; exact hn⟩⟩
    show Rs X.K X.w F2 _ (.ref D) (.ow (.dict [(x.1.dat, y.1.dat)]))
    rw [Rs.own_mut rfl]
    exact ⟨D, _, rfl, a3.fr, upd_same, .dic hd'⟩
  · cases q⟩
end
end Ky
end

section
set_option autoImplicit false
set_option linter.all false
set_option maxRecDepth 100000
set_option Elab.async false
/-! Calls. -/
namespace Ky
open PySem PySem.Spec L2
open PyProof.Rows hiding St
theorem isMutD_eq (d : D) : isMutD d = isMut d := by cases d <;> rfl
section
variable {K : PySem.W.Frag} {w : World} {kp : List Nat} {F F' F0 F1 F2 H H' H1 H2 : Hp} {env env1 env2 env3 : En} {σ σ1 σ2 : L2.St} {X : Cx} {pins : List (Addr × Obj)} {s : Shared} {kk : Nat} {a b c e tg : Expr} {es : List Expr} {pos : Pos}
/-- the arguments against the caller's slots -/
inductive ArgOk (K : PySem.W.Frag) (w : World) (F : Hp) (env : En) (σ : L2.St) : List Av → List Sl → List V → Prop
  | nil : ArgOk K w F env σ [] [] []
  | val {v : V} {d : D} {as : List Av} {ss : List Sl} {vs : List V} : Rv K w F v d → ArgOk K w F env σ as ss vs → ArgOk K w F env σ (.val d :: as) (.fz d :: ss) (v :: vs)
  | own {v : V} {i : Nat} {d : D} {as : List Av} {ss : List Sl} {vs : List V} : env[i]? = some (Sl.ow d) → isMut d = true → σ[i]? = some (some v) → ArgOk K w F env σ as ss vs → ArgOk K w F env σ (.own i :: as) (.ow d :: ss) (v :: vs)
inductive AvAll (K : PySem.W.Frag) (w : World) (F : Hp) (σ : L2.St) : List V → List Av → Prop
  | nil : AvAll K w F σ [] []
  | val {v : V} {d : D} {vs : List V} {as : List Av} : Rv K w F v d → AvAll K w F σ vs as → AvAll K w F σ (v :: vs) (.val d :: as)
  | own {v : V} {i : Nat} {vs : List V} {as : List Av} : σ[i]? = some (some v) → AvAll K w F σ vs as → AvAll K w F σ (v :: vs) (.own i :: as)
theorem AvAll.mono (s : Same F F') : ∀ {vs : List V} {as : List Av}, AvAll K w F σ vs as → AvAll K w F' σ vs as
  | _, _, .nil => .nil
  | _, _, .val h t => .val (h.mono s) (AvAll.mono s t)
  | _, _, .own h t => .own h (AvAll.mono s t)
theorem AvAll.take : ∀ {vs : List V} {as : List Av} {ss : List Sl}, AvAll K w F σ vs as → takeAll env as = some ss → ArgOk K w F env σ as ss vs
  | _, _, ss, .nil, e => by cases e; exact .nil
  | _, _, ss, .val h t, e => by
    obtain ⟨s1, e1, e⟩ := Option.bind_eq_some_iff.mp e
    obtain ⟨r, e2, z⟩ := Option.map_eq_some_iff.mp e
    cases e1
    cases z
    exact .val h (t.take e2)
  | _, _, ss, .own (i := i) h t, e => by
    obtain ⟨s1, e1, e⟩ := Option.bind_eq_some_iff.mp e
    obtain ⟨r, e2, z⟩ := Option.map_eq_some_iff.mp e
    cases z
    simp only [Av.get] at e1
    split at e1
    · rename_i d hd
      split at e1
      · rename_i hm
        cases e1
        exact .own hd (by rw [← isMutD_eq]; exact hm) h (t.take e2)
      · cases e1
    · cases e1
theorem ArgOk.rs (r : Rel K w F env σ H) : ∀ {as : List Av} {ss : List Sl} {vs : List V} {j : Nat} {s : Sl}, ArgOk K w F env σ as ss vs → ss[j]? = some s → ∃ v, vs[j]? = some v ∧ Rs K w F H v s
  | _, _, _, _, _, .nil, e => by simp at e
  | _, _, _, 0, _, .val h t, e => by simp at e; subst e; exact ⟨_, rfl, h⟩
  | _, _, _, 0, _, .own h1 h2 h3 t, e => by
    simp at e; subst e
    rcases r.slot _ _ h1 with z | ⟨v, q1, q2⟩
    · cases z
    · rw [h3] at q1
      cases q1
      exact ⟨_, rfl, q2⟩
  | _, _, _, j + 1, _, .val h t, e => by
    obtain ⟨v, a, b⟩ := ArgOk.rs r (j := j) t (by simpa using e)
    exact ⟨v, by simpa using a, b⟩
  | _, _, _, j + 1, _, .own h1 h2 h3 t, e => by
    obtain ⟨v, a, b⟩ := ArgOk.rs r (j := j) t (by simpa using e)
    exact ⟨v, by simpa using a, b⟩
theorem ArgOk.len : ∀ {as : List Av} {ss : List Sl} {vs : List V}, ArgOk K w F env σ as ss vs → ss.length = vs.length
  | _, _, _, .nil => rfl
  | _, _, _, .val _ t => by simp [ArgOk.len t]
  | _, _, _, .own _ _ _ t => by simp [ArgOk.len t]
theorem ArgOk.owns : ∀ {as : List Av} {ss : List Sl} {vs : List V} {j : Nat} {d : D}, ArgOk K w F env σ as ss vs → ss[j]? = some (Sl.ow d) → ∃ p v, as[j]? = some (Av.own p) ∧ vs[j]? = some v ∧ env[p]? = some (Sl.ow d) ∧ isMut d = true ∧ σ[p]? = some (some v)
  | _, _, _, _, _, .nil, e => by simp at e
  | _, _, _, 0, _, .val h t, e => by simp at e
  | _, _, _, 0, _, .own h1 h2 h3 t, e => by simp at e; subst e; exact ⟨_, _, rfl, rfl, h1, h2, h3⟩
  | _, _, _, j + 1, _, .val h t, e => by
    obtain ⟨p, v, a, b, c⟩ := ArgOk.owns (j := j) t (by simpa using e)
    exact ⟨p, v, by simpa using a, by simpa using b, c⟩
  | _, _, _, j + 1, _, .own h1 h2 h3 t, e => by
    obtain ⟨p, v, a, b, c⟩ := ArgOk.owns (j := j) t (by simpa using e)
    exact ⟨p, v, by simpa using a, by simpa using b, c⟩
theorem ArgOk.back : ∀ {as : List Av} {ss : List Sl} {vs : List V} {p : Nat}, ArgOk K w F env σ as ss vs → p ∈ ownsOf as → ∃ (j : Nat) (v : V) (d : D), as[j]? = some (Av.own p) ∧ vs[j]? = some v ∧ ss[j]? = some (Sl.ow d) ∧ σ[p]? = some (some v)
  | _, _, _, _, .nil, e => by cases e
  | _, _, _, _, .val h t, e => by
    obtain ⟨j, v, d, a, b, c, s⟩ := ArgOk.back t e
    exact ⟨j + 1, v, d, by simpa using a, by simpa using b, by simpa using c, s⟩
  | _, _, _, p, .own (i := i) h1 h2 h3 t, e => by
    rcases List.mem_cons.mp (show p ∈ i :: ownsOf _ from e) with z | z
    · subst z
      exact ⟨0, _, _, rfl, rfl, rfl, h3⟩
    · obtain ⟨j, v, d, a, b, c, s⟩ := ArgOk.back t z
      exact ⟨j + 1, v, d, by simpa using a, by simpa using b, by simpa using c, s⟩
theorem mem_owns : ∀ {as : List Av} {j p : Nat}, as[j]? = some (Av.own p) → p ∈ ownsOf as
  | [], _, _, e => by simp at e
  | .val d :: as, 0, p, e => by simp at e
  | .own i :: as, 0, p, e => by
    have e : Av.own i = .own p := by simpa using e
    cases e
    exact List.mem_cons_self ..
  | .val d :: as, j + 1, p, e => mem_owns (as := as) (j := j) (by simpa using e)
  | .own i :: as, j + 1, p, e => List.mem_cons_of_mem _ (mem_owns (as := as) (j := j) (by simpa using e))
theorem nodup_at : ∀ {as : List Av} {i j p : Nat}, nodupN (ownsOf as) = true → as[i]? = some (Av.own p) → as[j]? = some (Av.own p) → i = j
  | [], _, _, _, _, e, _ => by simp at e
  | .val d :: as, 0, _, _, _, e, _ => by simp at e
  | .val d :: as, _, 0, _, _, _, e => by simp at e
  | .val d :: as, i + 1, j + 1, p, n, e1, e2 => by rw [nodup_at (as := as) (i := i) (j := j) n (by simpa using e1) (by simpa using e2)]
  | .own q :: as, i, j, p, n, e1, e2 => by
    have n : (!(ownsOf as).contains q && nodupN (ownsOf as)) = true := n
    simp only [Bool.and_eq_true, Bool.not_eq_true', List.contains_eq_mem, decide_eq_false_iff_not] at n
    cases i with
    | zero =>
      cases j with
      | zero => rfl
      | succ j =>
        have e1 : Av.own q = .own p := by simpa using e1
        cases e1
        exact absurd (mem_owns (as := as) (j := j) (by simpa using e2)) n.1
    | succ i =>
      cases j with
      | zero =>
        have e2 : Av.own q = .own p := by simpa using e2
        cases e2
        exact absurd (mem_owns (as := as) (j := i) (by simpa using e1)) n.1
      | succ j => rw [nodup_at (as := as) (i := i) (j := j) n.2 (by simpa using e1) (by simpa using e2)]
/-- the callee's slots at its entry -/
theorem ArgOk.rel (r : Rel K w F env σ H) {as : List Av} {ss : List Sl} {vs : List V} (h : ArgOk K w F env σ as ss vs) (n : nodupN (ownsOf as) = true) : Rel K w F ss (vs.map some) H ∧ ∀ a, Own ss (vs.map some) a → ∃ p ∈ ownsOf as, OwnI env σ p a := by
  have own_of : ∀ (i : Nat) (a : Addr), OwnI ss (vs.map some) i a → ∃ p, as[i]? = some (Av.own p) ∧ OwnI env σ p a := fun i a ⟨d, e, m, q⟩ => by
    obtain ⟨p, v, h1, h2, h3, h4, h5⟩ := h.owns e
    rw [List.getElem?_map, h2] at q
    have q : some (some v) = some (some (V.ref a)) := q
    cases q
    exact ⟨p, h1, d, h3, m, h5⟩
  refine ⟨⟨r.sub, by rw [List.length_map]; exact h.len, fun i s e => ?_, fun i j a h1 h2 => ?_⟩, fun a ⟨i, h1⟩ => ?_⟩
  · obtain ⟨v, h1, h2⟩ := h.rs r e
    exact .inr ⟨v, by rw [List.getElem?_map, h1]; rfl, h2⟩
  · obtain ⟨p, a1, o1⟩ := own_of i a h1
    obtain ⟨q, a2, o2⟩ := own_of j a h2
    have := r.apart p q a o1 o2
    subst this
    exact nodup_at n a1 a2
  · obtain ⟨p, a1, o1⟩ := own_of i a h1
    exact ⟨p, mem_owns a1, o1⟩
/-- the slots as they come back -/
theorem putBack_at : ∀ {as : List Av} {ps : List Sl} {env env2 : En}, putBack as ps env = some env2 → nodupN (ownsOf as) = true → env2.length = env.length ∧ (∀ j, j ∉ ownsOf as → env2[j]? = env[j]?) ∧
    ∀ (i p : Nat), as[i]? = some (Av.own p) → ∃ s', (ps[i]? : Option Sl) = some s' ∧ s' ≠ .emp ∧ (p < env.length → env2[p]? = some s')
  | [], _, env, _, e, _ => by
    cases e
    exact ⟨rfl, fun _ _ => rfl, fun i p h => by simp at h⟩
  | .val d :: as, [], env, env2, e, _ => by cases e
  | .own q :: as, [], env, env2, e, _ => by cases e
  | .val d :: as, x :: ps, env, env2, e, n => by
    have e : putBack as ps env = some env2 := by simpa [putBack] using e
    obtain ⟨l, h1, h2⟩ := putBack_at e n
    refine ⟨l, h1, fun i p h => ?_⟩
    cases i with
    | zero => simp at h
    | succ i =>
      obtain ⟨s', a, b⟩ := h2 i p (by simpa using h)
      exact ⟨s', by simpa using a, b⟩
  | .own q :: as, x :: ps, env, env2, e, n => by
    have n : (!(ownsOf as).contains q && nodupN (ownsOf as)) = true := n
    simp only [Bool.and_eq_true, Bool.not_eq_true', List.contains_eq_mem, decide_eq_false_iff_not] at n
    have hx : x ≠ .emp ∧ putBack as ps (env.set q x) = some env2 := by
      cases x with
      | emp => simp [putBack] at e
      | fz d => exact ⟨(fun z => nomatch z), by simpa [putBack] using e⟩
      | ow d => exact ⟨(fun z => nomatch z), by simpa [putBack] using e⟩
    obtain ⟨l, h1, h2⟩ := putBack_at hx.2 n.2
    rw [List.length_set] at l
    refine ⟨l, fun j hj => ?_, fun i p h => ?_⟩
    · have hj1 : j ∉ ownsOf as := fun z => hj (List.mem_cons_of_mem _ z)
      have hj2 : q ≠ j := fun z => hj (by rw [z]; exact List.mem_cons_self ..)
      rw [h1 j hj1, List.getElem?_set_ne hj2]
    · cases i with
      | zero =>
        have e1 : Av.own q = .own p := by simpa using h
        cases e1
        refine ⟨x, rfl, hx.1, fun hp => ?_⟩
        rw [h1 q n.1, List.getElem?_set_self hp]
      | succ i =>
        obtain ⟨s', a, b, c⟩ := h2 i p (by simpa using h)
        exact ⟨s', by simpa using a, b, fun hp => c (by rw [List.length_set]; exact hp)⟩
/-- what a def promises: R its reckoning -/
def spF (K : PySem.W.Frag) (w : World) (R : List Sl → Option (Sl × List Sl)) (np : Nat) : Sp := fun vs H Q E => ∃ F ss r ps, vs.length = np ∧ Rel K w F ss (vs.map some) H ∧ R ss = some (r, ps) ∧
  ∀ v F' H', Mv F H (Own ss (vs.map some)) F' H' → Same F' H' → Rs K w F' H' v r → (∀ d a, r = .ow d → isMut d = true → v = .ref a → H a = none) →
    (∀ (i : Nat) (d : D) (s' : Sl), ss[i]? = some (Sl.ow d) → isMut d = true → (ps[i]? : Option Sl) = some s' → s' ≠ .emp → ∃ v', vs[i]? = some v' ∧ Rs K w F' H' v' s') → Q v H'
/-- a call's end -/
theorem call_end {as : List Av} {ss ps : List Sl} {vs : List V} {r : Sl} {v : V} (st : Stp K w F env σ H env1 F1 H1) (ok : ArgOk K w F1 env1 σ as ss vs) (n : nodupN (ownsOf as) = true) (hp : putBack as ps env1 = some env2)
    (mv : Mv F1 H1 (Own ss (vs.map some)) F2 H2) (sub : Same F2 H2) (hv : Rs K w F2 H2 v r) (nw : ∀ d a, r = .ow d → isMut d = true → v = .ref a → H1 a = none)
    (hb : ∀ (i : Nat) (d : D) (s' : Sl), ss[i]? = some (Sl.ow d) → isMut d = true → (ps[i]? : Option Sl) = some s' → s' ≠ .emp → ∃ v', vs[i]? = some v' ∧ Rs K w F2 H2 v' s') : EPost K w F env σ H r env2 v F2 H2 := by
  have r1 := st.rel
  obtain ⟨_, oc⟩ := ok.rel r1 n
  obtain ⟨hl, p1, p2⟩ := putBack_at hp n
  have ob : ∀ j a, OwnI env2 σ j a → OwnI env1 σ j a := fun j a ⟨d, e, m, q⟩ => by
    by_cases hj : j ∈ ownsOf as
    · obtain ⟨i, v', d', a1, a2, a3, a4⟩ := ok.back hj
      obtain ⟨p, v2, b1, b2, b3, b4, b5⟩ := ok.owns a3
      rw [a1] at b1
      cases b1
      exact ⟨d', b3, b4, q⟩
    · rw [p1 j hj] at e
      exact ⟨d, e, m, q⟩
  refine ⟨⟨st.mv.trans mv fun c z => ?_, ⟨sub, by rw [hl]; exact r1.len, fun j s e => ?_, fun i j a h1 h2 => r1.apart i j a (ob i a h1) (ob j a h2)⟩, fun a ⟨j, h⟩ => st.os a ⟨j, ob j a h⟩⟩, hv, fun d a e m ev => st.new (nw d a e m ev)⟩
  · obtain ⟨p, _, o⟩ := oc c z
    exact .inl (st.os c ⟨p, o⟩)
  · by_cases hj : j ∈ ownsOf as
    · obtain ⟨i, v', d', a1, a2, a3, a4⟩ := ok.back hj
      obtain ⟨p, v2, b1, b2, b3, b4, b5⟩ := ok.owns a3
      rw [a1] at b1
      cases b1
      obtain ⟨s', c1, c2, c3⟩ := p2 i j a1
      have hlt : j < env1.length := (List.getElem?_eq_some_iff.mp b3).1
      rw [c3 hlt] at e
      cases e
      obtain ⟨v3, d1, d2⟩ := hb i d' s a3 b4 c1 c2
      rw [b2] at d1
      cases d1
      exact .inr ⟨v2, b5, d2⟩
    · rw [p1 j hj] at e
      rcases r1.slot j s e with z | ⟨u, h1, h2⟩
      · exact .inl z
      · refine .inr ⟨u, h1, ?_⟩
        cases s with
        | emp => exact h2
        | fz d => exact Rv.mono mv.ff h2
        | ow d =>
          by_cases hm : isMut d = true
          · rw [Rs.own_mut hm] at h2 ⊢
            obtain ⟨b, o, ev, nF, q, rr⟩ := h2
            subst ev
            have nb : ¬ Own ss (vs.map some) b := fun z => by
              obtain ⟨p, hp1, hp2⟩ := oc b z
              have := r1.apart p j b hp2 ⟨d, e, hm, h1⟩
              subst this
              exact hj hp1
            refine ⟨b, o, rfl, ?_, mv.fr b o q nb, rr.mono mv.ff⟩
            cases z : F2 b with
            | none => rfl
            | some o' =>
              have := mv.nw b o q nb o' z
              rw [nF] at this; cases this
          · rw [Rs.own_imm hm] at h2 ⊢
            exact Rv.mono mv.ff h2

/-! the written call -/
def tAs (K : PySem.W.Frag) (w : World) (ev : En → Option (List Av × En)) : TA := fun σ H Q => ∃ F env as env1, Rel K w F env σ H ∧ ev env = some (as, env1) ∧ ∀ vs F' H', Stp K w F env σ H env1 F' H' → AvAll K w F' σ vs as → Q vs H'
theorem as_nil : PA X [] (tAs X.K X.w fun env => some ([], env)) := pa_nil.weak fun σ H Q ⟨F, env, ds, env1, r, q, k⟩ => by
  cases q
  exact k [] F H (Stp.refl r) .nil
theorem as_ex {ev : En → Option (Sl × En)} {evs : En → Option (List Av × En)} (he : PE X e (tO X.K X.w ev)) (hr : PA X es (tAs X.K X.w evs)) (hs : starEach (e :: es) X.env = (false, eval e X.env) :: starEach es X.env) :
    PA X (e :: es) (tAs X.K X.w fun env => (ev env).bind fun x => (evs x.2).map fun y => (.val x.1.dat :: y.1, y.2)) := (pa_cons (PE.frz he) hr hs).weak fun σ H Q ⟨F, env, ds, env1, r, q, k⟩ => by
  obtain ⟨x, e1, q⟩ := Option.bind_eq_some_iff.mp q
  obtain ⟨y, e2, z⟩ := Option.map_eq_some_iff.mp q
  cases z
  exact ⟨F, env, x.1, x.2, r, e1, fun v F' H' f => ⟨F', x.2, y.1, y.2, f.st.rel, e2, fun vs F2 H2 st2 rv2 => k (v :: vs) F2 H2 (f.st.trans st2) (.val (f.val.mono st2.mv.ff) rv2)⟩⟩
theorem as_bw {i : Nat} {evs : En → Option (List Av × En)} (he : PE X e (tVar i)) (hr : PA X es (tAs X.K X.w evs)) (hs : starEach (e :: es) X.env = (false, eval e X.env) :: starEach es X.env) :
    PA X (e :: es) (tAs X.K X.w fun env => (peek env i).bind fun _ => (evs env).map fun y => (.own i :: y.1, y.2)) := (pa_cons he hr hs).weak fun σ H Q ⟨F, env, ds, env1, r, q, k⟩ => by
  obtain ⟨d, e1, q⟩ := Option.bind_eq_some_iff.mp q
  obtain ⟨y, e2, z⟩ := Option.map_eq_some_iff.mp q
  cases z
  have hs : ∃ v, σ[i]? = some (some v) := by
    rcases peek_slot e1 with z | z <;> rcases r.slot i _ z with z | ⟨u, h1, h2⟩
    · cases z
    · exact ⟨u, h1⟩
    · cases z
    · exact ⟨u, h1⟩
  obtain ⟨v, hv⟩ := hs
  exact ⟨v, hv, F, env, y.1, y.2, r, e2, fun vs F2 H2 st2 rv2 => k (v :: vs) F2 H2 st2 (.own hv rv2)⟩
def evCall (R : List Sl → Option (Sl × List Sl)) (evs : En → Option (List Av × En)) : En → Option (Sl × En) := fun env => (evs env).bind fun x => if nodupN (ownsOf x.1) then (takeAll x.2 x.1).bind fun ss => (R ss).bind fun r => (putBack x.1 r.2 x.2).map fun env1 => (r.1, env1) else none
theorem call_imp {R : List Sl → Option (Sl × List Sl)} {np : Nat} {evs : En → Option (List Av × En)} (hR : ∀ ss r, R ss = some r → ss.length = np) (σ : L2.St) (H : Hp) (Q : VK) (E : XK) (h : tO K w (evCall R evs) σ H Q) : tCall (spF K w R np) [] E (tAs K w evs) σ H Q := by
  obtain ⟨F, env, s, env2, r, q, k⟩ := h
  obtain ⟨x, e1, q⟩ := Option.bind_eq_some_iff.mp q
  split at q
  · rename_i hn
    obtain ⟨ss, e2, q⟩ := Option.bind_eq_some_iff.mp q
    obtain ⟨rr, e3, q⟩ := Option.bind_eq_some_iff.mp q
    obtain ⟨y, e4, z⟩ := Option.map_eq_some_iff.mp q
    cases z
    refine ⟨F, env, x.1, x.2, r, e1, fun vs F1 H1 st av => ?_⟩
    have ok := av.take e2
    show spF K w R np (vs ++ []) H1 Q E
    rw [List.append_nil]
    exact ⟨F1, ss, rr.1, rr.2, by rw [← ok.len]; exact hR ss rr e3, (ok.rel st.rel hn).1, e3, fun v F2 H2 mv sub hv nw hb => k v F2 H2 (call_end st ok hn e4 mv sub hv nw hb)⟩
  · cases q
end
end Ky
end

section
set_option autoImplicit false
set_option linter.all false
set_option maxRecDepth 100000
set_option Elab.async false
/-! The primitives in the text. -/
namespace Ky
open PySem PySem.Spec L2
open PyProof.Rows hiding St
def plainE : Expr → Bool
  | .Starred .. => false
  | .Slice .. => false
  | .Set .. => false
  | _ => true
def plainT : Expr → Bool
  | .UnaryOp .Not _ _ => false
  | .BoolOp .. => false
  | .IfExp .. => false
  | .Compare .. => false
  | _ => true
def attrOk : Expr → Bool
  | .Call (.Name _ _) [] [] _ => false
  | _ => true
def notComp : Expr → Bool
  | .ListComp .. => false
  | .SetComp .. => false
  | .DictComp .. => false
  | _ => true
section
variable {e : Expr} {es : List Expr} {env : Env}
theorem plain_star (h : plainE e = true) : starEach (e :: es) env = (false, eval e env) :: starEach es env := by
  cases e <;> first | rfl | (simp [plainE] at h)
theorem plain_ix (h : plainE e = true) : PlainIx e := fun o i => by
  cases e <;> first | rfl | (simp [plainE] at h)
theorem plain_mark {op : CmpOp} (h : plainE e = true) : behindInMarks op e = false := by
  cases e <;> first | rfl | (simp [plainE] at h)
theorem plain_fold (h : plainE e = true) (x : Value) : foldedSetIterable e env x = pure x := by
  cases e <;> first | rfl | (simp [plainE] at h)
theorem plain_test (h : plainT e = true) (whole : Sem Value) : isTrue e env whole = (do let v ← whole; standAt e.pos; holding [v] (truthy v)) := by
  cases e <;> first | rfl | (simp [plainT] at h; done) | skip
  rename_i op _ _
  cases op <;> first | rfl | (simp [plainT] at h)
theorem attr_base {a : Str} (h : attrOk e = true) : attributeBase e a env (eval e env) = eval e env := by
  unfold attributeBase
  split
  · simp [attrOk] at h
  · rfl
theorem plain_swap {line : Nat} {t : Option Expr} (h : notComp e = true) : swapsWith e t line env = pure false := by
  cases e <;> first | rfl | (simp [notComp] at h)
end
def glob (sc : Scope) (x : Str) : Bool := decide (sc.names.lookup x = some .globalImplicit)
def bltNames : List Str := ["abs", "len", "sorted", "min", "max", "sum", "all", "any", "tuple", "list", "int", "str", "bool", "isinstance", "range", "zip", "enumerate", "dict", "set"]
section
variable {X : Cx} {kk : Nat} {a b c ast : Expr} {t u z : TE} {p pos apos : Pos} {sc : Scope} {x : Str}
theorem glob_gl (h : glob sc x = true) (hs : X.env.scope = sc) : Gl X x := by
  subst hs
  exact (of_decide_eq_true h : X.env.scope.names.lookup x = some .globalImplicit)
/-! f(a) -/
def callName : P1 → Option Str
  | .abs => some "abs"
  | .len => some "len"
  | .sorted => some "sorted"
  | .mn => some "min"
  | .mx => some "max"
  | .sum => some "sum"
  | .all => some "all"
  | .any => some "any"
  | .tup => some "tuple"
  | .lst => some "list"
  | .int => some "int"
  | .str => some "str"
  | .dct => some "dict"
  | _ => none
theorem p_call1 {q : P1} (hr : Room kk X.A) (hc : X.calm = true) (hm : ∀ x ∈ bltNames, X.mg x = none) (hq : callName q = some x) (hg : Gl X x) (hp : plainE a = true) (ha : PE X a t) : PE X (.Call (.Name x p) [a] [] pos) (fun σ H Q => t σ H fun x H1 => sem1 X.K X.w q x H1 Q) := by
  have hs : starEach [a] X.env = (false, eval a X.env) :: starEach [] X.env := plain_star hp
  have pa := pa_cons ha pa_nil hs
  have blt : ∀ {id : String} {x : Str} {q : P1}, CallR X (.builtin id) (one1 (sem1 X.K X.w q)) → X.mg x = none → bootBuiltins x = some (.builtin id) → x ≠ "__name__" → (x == ("__debug__" : Str)) = false → Gl X x → PE X (.Call (.Name x p) [a] [] pos) (fun σ H Q => t σ H fun x H1 => sem1 X.K X.w q x H1 Q) :=
    fun h1 h2 h3 h4 h5 h6 => pe_callB (CallR.on1 h1) h6 h2 h3 pa h4 h5 hs rfl
  have ty : ∀ {id : String} {x : Str} {q : P1}, CallR X (.type id) (one1 (sem1 X.K X.w q)) → X.mg x = none → bootBuiltins x = some (.type id) → x ≠ "__name__" → (x == ("__debug__" : Str)) = false → Gl X x → PE X (.Call (.Name x p) [a] [] pos) (fun σ H Q => t σ H fun x H1 => sem1 X.K X.w q x H1 Q) :=
    fun h1 h2 h3 h4 h5 h6 => pe_callTy (CallR.on1 h1) h6 h2 h3 pa h4 h5 hs rfl
  cases q <;> simp only [callName, Option.some.injEq, reduceCtorEq] at hq <;> subst hq
  case abs => exact blt r_abs (hm _ (by decide)) (by kernel_rfl) (by decide) (by decide) hg
  case len => exact blt (r_len hr) (hm _ (by decide)) (by kernel_rfl) (by decide) (by decide) hg
  case sorted => exact blt (r_sorted hr hc) (hm _ (by decide)) (by kernel_rfl) (by decide) (by decide) hg
  case mn => exact blt (r_mn hr hc) (hm _ (by decide)) (by kernel_rfl) (by decide) (by decide) hg
  case mx => exact blt (r_mx hr hc) (hm _ (by decide)) (by kernel_rfl) (by decide) (by decide) hg
  case sum => exact blt (r_sum hc) (hm _ (by decide)) (by kernel_rfl) (by decide) (by decide) hg
  case all => exact blt (r_all hc) (hm _ (by decide)) (by kernel_rfl) (by decide) (by decide) hg
  case any => exact blt (r_any hc) (hm _ (by decide)) (by kernel_rfl) (by decide) (by decide) hg
  case tup => exact ty r_tup (hm _ (by decide)) (by kernel_rfl) (by decide) (by decide) hg
  case lst => exact ty r_lst (hm _ (by decide)) (by kernel_rfl) (by decide) (by decide) hg
  case int => exact ty r_int (hm _ (by decide)) (by kernel_rfl) (by decide) (by decide) hg
  case str => exact ty r_str (hm _ (by decide)) (by kernel_rfl) (by decide) (by decide) hg
  case dct => exact ty (r_dct hr hc) (hm _ (by decide)) (by kernel_rfl) (by decide) (by decide) hg
/-! isinstance(a, T) -/
def onTy (n : String) (r : V → Hp → VK → Prop) : List V → Hp → VK → Prop
  | [x, .ty m], H, Q => m = n ∧ r x H Q
  | _, _, _ => False
theorem p_isI {ty : Ty} {p2 : Pos} (hm : ∀ x ∈ bltNames, X.mg x = none) (hg : Gl X "isinstance") (hg2 : Gl X (Str.ofString ty.name)) (hp : plainE a = true) (mt : Mono t) (ha : PE X a t) : PE X (.Call (.Name "isinstance" p) [a, .Name (Str.ofString ty.name) p2] [] pos) (fun σ H Q => t σ H fun x H1 => sem1 X.K X.w (.isI ty) x H1 Q) := by
  have hs : starEach [a, .Name (Str.ofString ty.name) p2] X.env = (false, eval a X.env) :: starEach [.Name (Str.ofString ty.name) p2] X.env := plain_star hp
  have hT : PE X (.Name (Str.ofString ty.name) p2) (tC (.ty ty.name)) := by
    cases ty
    · exact pe_bltn hg2 (hm _ (by decide)) (by kernel_rfl) rfl (by decide) (by decide)
    · exact pe_bltn hg2 (hm _ (by decide)) (by kernel_rfl) rfl (by decide) (by decide)
    · exact pe_bltn hg2 (hm _ (by decide)) (by kernel_rfl) rfl (by decide) (by decide)
    · exact pe_bltn hg2 (hm _ (by decide)) (by kernel_rfl) rfl (by decide) (by decide)
    · exact pe_bltn hg2 (hm _ (by decide)) (by kernel_rfl) rfl (by decide) (by decide)
  have hR : CallR X (.builtin "isinstance") (onTy ty.name (sem1 X.K X.w (.isI ty))) := fun pins s σ H xs us Q I rx q => by
    match xs, q with
    | [x, .ty m], ⟨e, q⟩ =>
      subst e
      exact r_isI ty pins s σ H _ us Q I rx ⟨x, rfl, q⟩
  exact (pe_callB hR hg (hm _ (by decide)) (by kernel_rfl) (pa_cons ha (pa_cons hT pa_nil) hs) (by decide) (by decide) hs rfl).weak fun σ H Q h => mt σ H _ _ (fun x H1 q => ⟨rfl, q⟩) h
/-! f(a, b) -/
theorem p_mx2 (hc : X.calm = true) (hm : ∀ x ∈ bltNames, X.mg x = none) (hg : Gl X "max") (hp : plainE a = true) (hp2 : plainE b = true) (ha : PE X a t) (hb : PE X b u) : PE X (.Call (.Name "max" p) [a, b] [] pos) (fun σ H Q => t σ H fun x H1 => u σ H1 fun y H2 => sem2 X.K X.w .mx2 x y H2 Q) := by
  have hs : starEach [a, b] X.env = (false, eval a X.env) :: starEach [b] X.env := plain_star hp
  have hs2 : starEach [b] X.env = (false, eval b X.env) :: starEach [] X.env := plain_star hp2
  exact pe_callB (r_mx2 hc) hg (hm _ (by decide)) (by kernel_rfl) (pa_cons ha (pa_cons hb pa_nil hs2) hs) (by decide) (by decide) hs (by rw [hs2]; rfl)
theorem p_mn2 (hc : X.calm = true) (hm : ∀ x ∈ bltNames, X.mg x = none) (hg : Gl X "min") (hp : plainE a = true) (hp2 : plainE b = true) (ha : PE X a t) (hb : PE X b u) : PE X (.Call (.Name "min" p) [a, b] [] pos) (fun σ H Q => t σ H fun x H1 => u σ H1 fun y H2 => sem2 X.K X.w .mn2 x y H2 Q) := by
  have hs : starEach [a, b] X.env = (false, eval a X.env) :: starEach [b] X.env := plain_star hp
  have hs2 : starEach [b] X.env = (false, eval b X.env) :: starEach [] X.env := plain_star hp2
  exact pe_callB (r_mn2 hc) hg (hm _ (by decide)) (by kernel_rfl) (pa_cons ha (pa_cons hb pa_nil hs2) hs) (by decide) (by decide) hs (by rw [hs2]; rfl)
def binOp : P2 → Option Operator
  | .add => some .Add
  | .sub => some .Sub
  | .mul => some .Mult
  | .fdiv => some .FloorDiv
  | .mod => some .Mod
  | .pow => some .Pow
  | _ => none
theorem p_bin {q : P2} {op : Operator} (h : binOp q = some op) : OpR X (binaryOp op) (sem2 X.K X.w q) := by
  cases q <;> simp only [binOp, Option.some.injEq, reduceCtorEq] at h <;> subst h
  · exact r_add
  · exact r_sub
  · exact r_mul
  · exact r_fdiv
  · exact r_mod
  · exact r_pow
def cmpOf : P2 → Option CmpOp
  | .lt => some .Lt
  | .le => some .LtE
  | .gt => some .Gt
  | .ge => some .GtE
  | .eq => some .Eq
  | .ne => some .NotEq
  | .isin => some .In
  | .notin => some .NotIn
  | _ => none
theorem p_cmp {q : P2} {op : CmpOp} (hr : Room kk X.A) (h : cmpOf q = some op) : OpR X (compareOp op) (sem2 X.K X.w q) ∧ q.fresh = false := by
  cases q <;> simp only [cmpOf, Option.some.injEq, reduceCtorEq] at h <;> subst h
  · exact ⟨r_lt hr, rfl⟩
  · exact ⟨r_le hr, rfl⟩
  · exact ⟨r_gt hr, rfl⟩
  · exact ⟨r_ge hr, rfl⟩
  · exact ⟨r_eq hr, rfl⟩
  · exact ⟨r_ne hr, rfl⟩
  · exact ⟨r_in hr, rfl⟩
  · exact ⟨r_notin hr, rfl⟩
def augOp : P2 → Option Operator
  | .add => some .Add
  | .sub => some .Sub
  | _ => none
end
end Ky
end

section
set_option autoImplicit false
set_option linter.all false
set_option maxRecDepth 100000
set_option Elab.async false
/-! The checker: is this the text of that core term? -/
namespace Ky
open PySem PySem.Spec L2
open PyProof.Rows hiding St
/-- the slots' names; the names of the defs, of the constants -/
structure Ck where
  N : List Str
  fns : List Str
  cons : List Str
/-- the scope at hand; what may be stored there -/
structure Sk where
  sc : Scope
  st : Str → Bool
def Sk.inner (s : Sk) (scope : Scope) : Sk := ⟨relS scope s.sc, fun x => decide ((relS scope s.sc).names.lookup x = some .local) || (decide ((relS scope s.sc).names.lookup x = some .cell) && decide (scope.names.lookup x = some .cell))⟩
def vis (sc : Scope) (x : Str) : Bool := decide (sc.names.lookup x = some .local) || decide (sc.names.lookup x = some .cell) || decide (sc.names.lookup x = some .free)
def okName (x : Str) : Bool := !(x == ("__debug__" : Str)) && !(x == ("__classdict__" : Str))
def nm (cx : Ck) (s : Sk) (i : Nat) (x : Str) : Bool := decide (cx.N[i]? = some x) && vis s.sc x && okName x
def stn (cx : Ck) (s : Sk) (i : Nat) (x : Str) : Bool := decide (cx.N[i]? = some x) && s.st x
def cstOk : D → Expr → Bool
  | .int i, .Constant (.int j) _ _ => decide (i = j)
  | .bool i, .Constant (.bool j) _ _ => decide (i = j)
  | .str i, .Constant (.str j) _ _ => decide (i = j)
  | .none, .Constant .none _ _ => true
  | _, _ => false
def un1 (sc : Scope) : P1 → Expr → Option Expr
  | .neg, .UnaryOp .USub a _ => some a
  | .isN, .Compare a [.Is] [.Constant .none _ _] _ => some a
  | .notN, .Compare a [.IsNot] [.Constant .none _ _] _ => some a
  | .isB b, .Compare a [.Is] [.Constant (.bool c) _ _] _ => if b = c then some a else none
  | .notB b, .Compare a [.IsNot] [.Constant (.bool c) _ _] _ => if b = c then some a else none
  | .isI ty, .Call (.Name f _) [a, .Name n _] [] _ => if f = "isinstance" ∧ glob sc f = true ∧ n = Str.ofString ty.name ∧ glob sc n = true then some a else none
  | .rev, .Subscript a (.Slice none none (some (.UnaryOp .USub (.Constant (.int 1) _ _) _)) _) _ => some a
  | .mxv, .Call (.Name f _) [.Call (.Attribute a v apos) [] [] cpos] [] _ => if f = "max" ∧ glob sc f = true ∧ v = "values" ∧ attrOk a = true ∧ (apos.endLine == cpos.line) = true then some a else none
  | q, .Call (.Name f _) [a] [] _ => if callName q = some f ∧ glob sc f = true then some a else none
  | _, _ => none
def bin2 (sc : Scope) : P2 → Expr → Option (Expr × Expr)
  | .ix, .Subscript a b _ => some (a, b)
  | .slLo, .Subscript a (.Slice (some b) none none _) _ => some (a, b)
  | .slHi, .Subscript a (.Slice none (some b) none _) _ => some (a, b)
  | .mx2, .Call (.Name f _) [a, b] [] _ => if f = "max" ∧ glob sc f = true then some (a, b) else none
  | .mn2, .Call (.Name f _) [a, b] [] _ => if f = "min" ∧ glob sc f = true then some (a, b) else none
  | .get, .Call (.Attribute a v apos) [b] [] pos => if v = "get" ∧ attrOk a = true ∧ (apos.endLine == pos.line) = true then some (a, b) else none
  | q, .BinOp a op b _ => if binOp q = some op then some (a, b) else none
  | q, .Compare a [op] [b] _ => if cmpOf q = some op then some (a, b) else none
  | _, _ => none
def tri3 : P3 → Expr → Option (Expr × Expr × Expr)
  | .get, .Call (.Attribute a v apos) [b, c] [] pos => if v = "get" ∧ attrOk a = true ∧ (apos.endLine == pos.line) = true then some (a, b, c) else none
  | _, _ => none
def ownPairs (cx : Ck) (own : List Nat) : List (Str × Nat) := own.map fun i => (cx.N.getD i "", i)
def blkOk (cx : Ck) (s : Sk) (scope : Scope) (own : List Nat) : Bool := blkC cx.N s.sc scope (ownPairs cx own)
/-- names to be stored -/
def chkNs (cx : Ck) (s : Sk) : List Nat → List Expr → Bool
  | [], [] => true
  | i :: is, .Name x _ :: es => stn cx s i x && chkNs cx s is es
  | _, _ => false
def chkT (cx : Ck) (s : Sk) : Ct → Expr → Bool
  | .nm i, .Name x _ => stn cx s i x
  | .tp is, .Tuple es _ _ => chkNs cx s is es
  | _, _ => false
def subN (is own : List Nat) : Bool := is.all fun i => decide (i ∈ own)
def disN (is kp : List Nat) : Bool := is.all fun i => decide (i ∉ kp)
mutual
def chkE (cx : Ck) : Ce → Sk → Expr → Bool
  | .cst d, _, e => cstOk d e
  | .glb k, s, .Name x _ => decide (cx.cons[k]? = some x) && glob s.sc x && okName x
  | .rd i, s, .Name x _ => nm cx s i x
  | .p1 p a, s, e => match un1 s.sc p e with
    | some ea => plainE ea && chkO cx a s ea
    | none => false
  | .p2 p a b, s, e => match bin2 s.sc p e with
    | some (ea, eb) => plainE ea && plainE eb && chkO cx a s ea && chkO cx b s eb
    | none => false
  | .p3 p a b c, s, e => match tri3 p e with
    | some (ea, eb, ec) => plainE ea && plainE eb && plainE ec && chkO cx a s ea && chkO cx b s eb && chkO cx c s ec
    | none => false
  | .chain p q a b c, s, .Compare ea [op, op'] [eb, ec] _ => decide (cmpOf p = some op) && decide (cmpOf q = some op') && plainE ea && plainE eb && plainE ec && chkO cx a s ea && chkO cx b s eb && chkO cx c s ec
  | .and a b, s, .BoolOp .And (ea :: eb :: rest) pos => chkE cx a s ea && (match rest with
    | [] => chkE cx b s eb
    | r :: rs => chkE cx b s (.BoolOp .And (eb :: r :: rs) pos))
  | .or a b, s, .BoolOp .Or (ea :: eb :: rest) pos => chkE cx a s ea && (match rest with
    | [] => chkE cx b s eb
    | r :: rs => chkE cx b s (.BoolOp .Or (eb :: r :: rs) pos))
  | .not a, s, .UnaryOp .Not ea _ => chkE cx a s ea
  | .ite c a b, s, .IfExp ec ea eb _ => chkE cx c s ec && chkE cx a s ea && chkE cx b s eb
  | .tup es, s, .Tuple l _ _ => chkEs cx es s l
  | .lst es, s, .List l _ => chkEs cx es s l
  | .dct .nil, _, .Dict [] [] _ => true
  | .dct (.cons k (.cons v .nil)), s, .Dict [some kx] [vx] _ => chkE cx k s kx && chkE cx v s vx
  | .call f as, s, .Call (.Name x _) (e :: es) [] _ => decide (cx.fns[f]? = some x) && glob s.sc x && okName x && chkAs cx as s (e :: es)
  | .mut .append i es, s, .Call (.Attribute (.Name x _) m apos) [e] [] cpos => decide (m = "append") && nm cx s i x && (apos.endLine == cpos.line) && chkEs cx es s [e]
  | .lc tg it cs e own, s, .ListComp elt [⟨tgx, iter, ifs, 0⟩] scope _ => chkI cx it s tgx iter && blkOk cx s scope own && subN tg.slots own && chkT cx (s.inner scope) tg tgx && chkCs cx cs (s.inner scope) ifs && chkE cx e (s.inner scope) elt
  | .lc2 tg it cs tg1 it1 cs1 e own own1, s, .ListComp elt [⟨tgx, iter, ifs, 0⟩, ⟨tgx1, iter1, ifs1, 0⟩] scope _ => chkI cx it s tgx iter && blkOk cx s scope own && subN tg.slots own && subN tg1.slots own1 && subN own1 own &&
    chkT cx (s.inner scope) tg tgx && chkCs cx cs (s.inner scope) ifs && chkI cx it1 (s.inner scope) tgx1 iter1 && chkT cx (s.inner scope) tg1 tgx1 && chkCs cx cs1 (s.inner scope) ifs1 && chkE cx e (s.inner scope) elt
  | .dc tg it cs k v own, s, .DictComp kx vx [⟨tgx, iter, ifs, 0⟩] scope _ => chkI cx it s tgx iter && blkOk cx s scope own && subN tg.slots own && chkT cx (s.inner scope) tg tgx && chkCs cx cs (s.inner scope) ifs && chkE cx k (s.inner scope) kx && chkE cx v (s.inner scope) vx
  | _, _, _ => false
def chkO (cx : Ck) : Co → Sk → Expr → Bool
  | .ex c, s, e => chkE cx c s e
  | .pk i, s, .Name x _ => nm cx s i x
  | _, _, _ => false
def chkEs (cx : Ck) : Ces → Sk → List Expr → Bool
  | .nil, _, [] => true
  | .cons c r, s, e :: es => plainE e && chkE cx c s e && chkEs cx r s es
  | _, _, _ => false
def chkAs (cx : Ck) : Cas → Sk → List Expr → Bool
  | .nil, _, [] => true
  | .ex c r, s, e :: es => plainE e && chkE cx c s e && chkAs cx r s es
  | .bw i r, s, .Name x _ :: es => nm cx s i x && chkAs cx r s es
  | _, _, _ => false
/-- at most one test -/
def chkCs (cx : Ck) : Ces → Sk → List Expr → Bool
  | .nil, _, [] => true
  | .cons c .nil, s, [e] => chkE cx c s e
  | _, _, _ => false
def chkI (cx : Ck) : Ci → Sk → Expr → Expr → Bool
  | .ex c, s, _, e => plainE e && chkE cx c s e
  | .rng es, s, _, .Call (.Name f _) args [] _ => decide (f = "range") && glob s.sc f && decide (args.length = 1 ∨ args.length = 2) && chkEs cx es s args
  | .zip es, s, .Tuple _ _ _, .Call (.Name f _) [a, b] [] _ => decide (f = "zip") && glob s.sc f && chkEs cx es s [a, b]
  | .enum c, s, .Tuple _ _ _, .Call (.Name f _) [a] [] _ => decide (f = "enumerate") && glob s.sc f && plainE a && chkE cx c s a
  | _, _, _, _ => false
end
/-- does the model store the value within the comprehension? -/
def swB (sc : Scope) (scope : Scope) (vp xp : Pos) (x : Str) : Bool := sc.names.lookup x == some .local && xp.line == vp.line && !(scope.names.any fun (n, k) => n == x && (k == .local || k == .cell))
/-- how the model stores a display into names -/
def swP (sc : Scope) (ts vs : List Expr) : Option (Option (List Str)) :=
  if !(ts.length == 2 || ts.length == 3) || vs.length != ts.length then some none
  else if vs.any (fun | .Starred .. => true | _ => false) then some none
  else
    let line := (ts.head?.map (·.pos.line)).getD 0
    let names := ts.filterMap fun
      | .Name id pos => if sc.names.lookup id == some .local && pos.line == line then some id else none
      | _ => none
    if names.length != ts.length || names.eraseDups.length != names.length then some none
    else if vs.all (foldedForSure 8) then some none
    else if vs.all (constantsAlone 8) then none
    else some (some names)
def notTup : Expr → Bool
  | .Tuple .. => false
  | _ => true
def chkSs (cx : Ck) : List (Nat × Bool) → Ces → Sk → List Expr → Bool
  | [], .nil, _, [] => true
  | _ :: is, .cons c r, s, e :: es => plainE e && chkE cx c s e && chkSs cx is r s es
  | _, _, _, _ => false
/-- a parallel assignment's form -/
def chkPar (cx : Ck) (s : Sk) (is : List (Nat × Bool)) (ts vs : List Expr) : Bool :=
  match swP s.sc ts vs with
  | some none => decide (is.length ≤ 100) && chkNs cx s (is.map (·.1)) ts
  | some (some ns) => match is, ts, vs with
    | [(i, _), (j, _)], [.Name x _, .Name y _], [_, _] => decide (ns = [x, y]) && decide (cx.N[i]? = some x) && decide (cx.N[j]? = some y) && decide (i ≠ j) && decide (s.sc.names.lookup x = some .local) && decide (s.sc.names.lookup y = some .local)
    | [(i, _), (j, _), (l, _)], [.Name x _, .Name y _, .Name z _], [_, _, _] => decide (ns = [x, y, z]) && decide (cx.N[i]? = some x) && decide (cx.N[j]? = some y) && decide (cx.N[l]? = some z) && decide (i ≠ j) && decide (i ≠ l) && decide (j ≠ l) && decide (s.sc.names.lookup x = some .local) && decide (s.sc.names.lookup y = some .local) && decide (s.sc.names.lookup z = some .local)
    | _, _, _ => false
  | none => false
mutual
def chkS (cx : Ck) (kp : List Nat) : Cs → Sk → Stmt → Bool
  | .asg i _ e, s, .Assign [.Name x xp] v _ => stn cx s i x && decide (i ∉ kp) && chkE cx e s v && (match v with
    | .ListComp _ _ scope vp => !swB s.sc scope vp xp x || decide (s.sc.names.lookup x = some .local)
    | .DictComp _ _ _ scope vp => !swB s.sc scope vp xp x || decide (s.sc.names.lookup x = some .local)
    | .SetComp .. => false
    | _ => true)
  | .unp is e, s, .Assign [.Tuple ts _ _] v _ => chkNs cx s is ts && chkE cx e s v && notTup v && notComp v && disN is kp
  | .par is es, s, .Assign [.Tuple ts _ _] (.Tuple vs _ _) _ => chkSs cx is es s vs && chkPar cx s is ts vs && disN (is.map (·.1)) kp
  | .aug i p e, s, .AugAssign (.Name x _) op v _ => decide (augOp p = some op) && stn cx s i x && decide (i ∉ kp) && chkE cx e s v
  | .expr e, s, .Expr v _ => chkE cx e s v && notComp v
  | .mutS .append i es, s, .Expr v _ => chkE cx (.mut .append i es) s v && notComp v
  | .mutS .extend i (.cons e .nil), s, .AugAssign (.Name x _) .Add v _ => stn cx s i x && chkE cx e s v
  | .mutS .set i (.cons e (.cons k .nil)), s, .Assign [.Subscript (.Name x _) kx _] v _ => nm cx s i x && plainE kx && chkE cx k s kx && chkE cx e s v && notComp v
  | .mutS .addI i (.cons k (.cons (.cst (.int j)) .nil)), s, .AugAssign (.Subscript (.Name x _) kx _) .Add (.Constant (.int j') _ _) _ => nm cx s i x && plainE kx && chkE cx k s kx && decide (j = j')
  | .ret e, s, .Return (some v) _ => chkE cx e s v
  | .ret (.cst .none), _, .Return none _ => true
  | .ifs c a b, s, .If t p q _ => chkE cx c s t && chkB cx kp a s p && chkB cx kp b s q
  | .whl c b, s, .While t p [] _ => chkE cx c s t && chkB cx kp b s p
  | .for tg it b, s, .For tgx iter p [] _ => chkI cx it s tgx iter && plainE iter && chkT cx s tg tgx && disN tg.slots kp && chkB cx kp b s p
  | .pass, _, .Pass _ => true
  | .dead, _, _ => true
  | _, _, _ => false
def chkB (cx : Ck) (kp : List Nat) : Cb → Sk → List Stmt → Bool
  | .nil, _, [] => true
  | .cons c r, s, e :: es => chkS cx kp c s e && chkB cx kp r s es
  | _, _, _ => false
end
end Ky
end

section
set_option autoImplicit false
set_option linter.all false
set_option maxRecDepth 100000
set_option Elab.async false
/-! The checker is right: expressions. -/
namespace Ky
open PySem PySem.Spec L2
open PyProof.Rows hiding St
structure Ctx (X : Cx) (cx : Ck) (s : Sk) (T : List D) (C : Calls) : Prop where
  hN : X.N = cx.N
  nd : X.N.Nodup
  calm : X.calm = true
  sc : X.env.scope = s.sc
  kind : X.env.scope.kind = .function
  room : ∃ k, Room k X.A ∧ ∀ (i : Nat) (x : Str), cx.fns[i]? = some x → ∃ (f : Addr) (fd : FuncData) (ps : List Str) (np : Nat), X.mg x = some (.ref f) ∧ PySem.W.keepIn X.K (.ref f) = true ∧ Binds X.K fd ps [] ∧ FnOk X.prog X.w X.K X.mg X.base CX0 k f fd ps (spF X.K X.w (C i) np) ∧ ∀ ss r, C i ss = some r → ss.length = np
  blt : ∀ x ∈ bltNames, X.mg x = none
  con : ∀ (i : Nat) (x : Str) (d : D), cx.cons[i]? = some x → T[i]? = some d → ∃ u v, X.mg x = some u ∧ RelV v u ∧ ∀ F, Rv X.K X.w F v d
  st : ∀ x, s.st x = true → Loc X.env.scope x ∧ (X.fn x = true ∨ X.env.scope.names.lookup x = some .local)
theorem Ctx.blk {X : Cx} {cx : Ck} {sk : Sk} {T : List D} {C : Calls} (h : Ctx X cx sk T C) {scope : Scope} (hk : scope.kind = .function) (s : Shared) (H : Hp) (C' : Addr) (cl : List (Str × Addr)) (fp : List Addr) : Ctx (X.blk s H scope (compEnvC scope cl C' X.env) fp) cx (sk.inner scope) T C where
  hN := h.hN
  nd := h.nd
  calm := h.calm
  sc := by
    show relS scope X.env.scope = relS scope sk.sc
    rw [h.sc]
  kind := hk
  room := h.room
  blt := h.blt
  con := h.con
  st := fun x hx => by
    show Loc (relS scope X.env.scope) x ∧ ((scope.names.lookup x == some .cell) = true ∨ (relS scope X.env.scope).names.lookup x = some .local)
    rw [h.sc]
    have hx : (decide ((relS scope sk.sc).names.lookup x = some .local) || (decide ((relS scope sk.sc).names.lookup x = some .cell) && decide (scope.names.lookup x = some .cell))) = true := hx
    simp only [Bool.or_eq_true, Bool.and_eq_true, decide_eq_true_eq] at hx
    rcases hx with hx | ⟨h1, h2⟩
    · exact ⟨.inl hx, .inr hx⟩
    · exact ⟨.inr h1, .inl (by rw [h2]; rfl)⟩
def SndE (X : Cx) (e : Expr) (ev : En → Option (Sl × En)) : Prop := PE X e (tO X.K X.w ev) ∧ PT X e (tB X.K X.w ev) ∧ ∀ op vs p, e = .BoolOp op vs p → PW X e (tB X.K X.w ev)
section
variable {X : Cx} {cx : Ck} {s : Sk} {T : List D} {C : Calls} {e ea eb ec tg iter : Expr} {es : List Expr} {ev ev2 ev3 : En → Option (Sl × En)} {x : Str} {i : Nat}
theorem SndE.plain (h : PE X e (tO X.K X.w ev)) (hp : plainT e = true) : SndE X e ev := ⟨h, pt_plain h (plain_test hp), fun op vs p ee => by subst ee; simp [plainT] at hp⟩
theorem SndE.cmp {a : Expr} {ops : List CmpOp} {cs : List Expr} {p : Pos} (h : PE X (.Compare a ops cs p) (tO X.K X.w ev) ∧ PT X (.Compare a ops cs p) (tB X.K X.w ev)) : SndE X (.Compare a ops cs p) ev := ⟨h.1, h.2, fun _ _ _ z => nomatch z⟩
theorem Ctx.vis (hX : Ctx X cx s T C) (h : nm cx s i x = true) {p : Pos} : PE X (.Name x p) (tVar i) := by
  simp only [nm, Bool.and_eq_true, decide_eq_true_eq, okName, Bool.not_eq_true'] at h
  have hv : Vis X.env.scope x := by
    rw [hX.sc]
    have h2 := h.1.2
    simp only [Ky.vis, Bool.or_eq_true, decide_eq_true_eq] at h2
    rcases h2 with (h2 | h2) | h2
    · exact .inl h2
    · exact .inr (.inl h2)
    · exact .inr (.inr h2)
  exact pe_var (by rw [hX.hN]; exact h.1.1) hv h.2.1 h.2.2
theorem Ctx.gl (hX : Ctx X cx s T C) (h : glob s.sc x = true) : Gl X x := glob_gl h hX.sc
theorem snd_cst {d : D} (h : cstOk d e = true) : SndE X e (fun env => some (.fz d, env)) := by
  unfold cstOk at h
  split at h
  · have := of_decide_eq_true h
    subst this
    exact .plain (e_val pe_int fun F => .int) rfl
  · have := of_decide_eq_true h
    subst this
    exact .plain (e_val pe_bl fun F => .bool) rfl
  · have := of_decide_eq_true h
    subst this
    exact .plain (e_val pe_str fun F => .str) rfl
  · exact .plain (e_val pe_non fun F => .none) rfl
  · cases h
theorem snd_un1 {p : P1} {ev : En → Option (Wv × En)} (hX : Ctx X cx s T C) (h : un1 s.sc p e = some ea) (hp : plainE ea = true) (ha : PE X ea (tW X.K X.w ev)) : SndE X e (evP1 p ev) := by
  obtain ⟨k, hr, _⟩ := hX.room
  unfold un1 at h
  split at h
  · cases h
    exact .plain (p1_ok ha fun t mt ht => pe_un r_neg ht) rfl
  · cases h
    exact .cmp (e_isNon r_isN ha rfl)
  · cases h
    exact .cmp (e_isNon r_notN ha rfl)
  · split at h
    · rename_i hb
      cases h
      subst hb
      exact .cmp (e_isBl (p := .isB) r_isB ha rfl)
    · cases h
  · split at h
    · rename_i hb
      cases h
      subst hb
      exact .cmp (e_isBl (p := .notB) r_notB ha rfl)
    · cases h
  · split at h
    · rename_i hh
      cases h
      obtain ⟨h1, h2, h3, h4⟩ := hh
      subst h1 h3
      exact .plain (p1_ok ha fun t mt ht => p_isI hX.blt (hX.gl h2) (hX.gl h4) hp mt ht) rfl
    · cases h
  · cases h
    exact .plain (p1_ok ha fun t mt ht => p_rev ht) rfl
  · split at h
    · rename_i hh
      cases h
      obtain ⟨h1, h2, h3, h4, h5⟩ := hh
      subst h1 h3
      exact .plain (p1_ok ha fun t mt ht => p_mxv hr hX.calm mt ht (hX.gl h2) (hX.blt _ (by decide)) (attr_base h4) h5) rfl
    · cases h
  · split at h
    · rename_i hh
      cases h
      exact .plain (p1_ok ha fun t mt ht => p_call1 hr hX.calm hX.blt hh.1 (hX.gl hh.2) hp ht) rfl
    · cases h
  · cases h
theorem few1 {p : Pos} {env : Env} (hs : starEach [eb] env = (false, eval eb env) :: starEach [] env) : ((backTo p (starEach [eb] env)).all (fun x => !x.1) && (backToKw p (keywordEach [] env)).all (fun x => x.1.isSome)
      && decide ([eb].length + ([] : List Keyword).length + (if ([] : List Keyword).isEmpty then 0 else 1) < 30)) = true := by
  rw [hs]; rfl
theorem few2 {p : Pos} {env : Env} (hs : starEach [eb, ec] env = (false, eval eb env) :: starEach [ec] env) (hs2 : starEach [ec] env = (false, eval ec env) :: starEach [] env) : ((backTo p (starEach [eb, ec] env)).all (fun x => !x.1) && (backToKw p (keywordEach [] env)).all (fun x => x.1.isSome)
      && decide ([eb, ec].length + ([] : List Keyword).length + (if ([] : List Keyword).isEmpty then 0 else 1) < 30)) = true := by
  rw [hs, hs2]; rfl
theorem snd_bin2 {p : P2} {ev ev2 : En → Option (Wv × En)} (hX : Ctx X cx s T C) (h : bin2 s.sc p e = some (ea, eb)) (hp : plainE ea = true) (hp2 : plainE eb = true) (ha : PE X ea (tW X.K X.w ev)) (hb : PE X eb (tW X.K X.w ev2)) : SndE X e (evP2 p ev ev2) := by
  obtain ⟨k, hr, _⟩ := hX.room
  have hs : ∀ es, starEach (eb :: es) X.env = (false, eval eb X.env) :: starEach es X.env := fun es => plain_star hp2
  unfold bin2 at h
  split at h
  · cases h
    exact .plain (p2_ok ha hb fun t u mt mu ht hu => pe_ix (r_ix hr) ht hu (plain_ix hp2)) rfl
  · cases h
    exact .plain (p2_ok ha hb fun t u mt mu ht hu => p_slLo mt mu ht hu) rfl
  · cases h
    exact .plain (p2_ok ha hb fun t u mt mu ht hu => p_slHi mt mu ht hu) rfl
  · split at h
    · rename_i hh
      cases h
      obtain ⟨h1, h2⟩ := hh
      subst h1
      exact .plain (p2_ok ha hb fun t u mt mu ht hu => p_mx2 hX.calm hX.blt (hX.gl h2) hp hp2 ht hu) rfl
    · cases h
  · split at h
    · rename_i hh
      cases h
      obtain ⟨h1, h2⟩ := hh
      subst h1
      exact .plain (p2_ok ha hb fun t u mt mu ht hu => p_mn2 hX.calm hX.blt (hX.gl h2) hp hp2 ht hu) rfl
    · cases h
  · split at h
    · rename_i hh
      cases h
      obtain ⟨h1, h2, h3⟩ := hh
      subst h1
      exact .plain (get_ok ha hb fun t u mt mu ht hu => p_get hr ht hu (attr_base h2) (few1 (hs [])) h3 (hs [])) rfl
    · cases h
  · split at h
    · rename_i hh
      cases h
      exact .plain (p2_ok ha hb fun t u mt mu ht hu => pe_op (p_bin hh) ht hu) rfl
    · cases h
  · split at h
    · rename_i hh
      cases h
      exact .cmp (e_cmp (p_cmp hr hh).1 ha hb (plain_mark hp2))
    · cases h
  · cases h
def evP3 (p : P3) (ev ev2 ev3 : En → Option (Wv × En)) : En → Option (Sl × En) := fun env => (ev env).bind fun x => (pre3 p (x.1.get x.2)).bind fun _ => (ev2 x.2).bind fun y => (ev3 y.2).bind fun z => (x.1.get z.2).bind fun d => (y.1.get z.2).bind fun e => (z.1.get z.2).bind fun g => (f3 p d e g).map fun r => (.mk p.fresh r, z.2)
theorem snd_tri3 {p : P3} {ev ev2 ev3 : En → Option (Wv × En)} (hX : Ctx X cx s T C) (h : tri3 p e = some (ea, eb, ec)) (hp : plainE ea = true) (hp2 : plainE eb = true) (hp3 : plainE ec = true) (ha : PE X ea (tW X.K X.w ev)) (hb : PE X eb (tW X.K X.w ev2)) (hc : PE X ec (tW X.K X.w ev3)) : SndE X e (evP3 p ev ev2 ev3) := by
  obtain ⟨k, hr, _⟩ := hX.room
  have hs : ∀ es, starEach (eb :: es) X.env = (false, eval eb X.env) :: starEach es X.env := fun es => plain_star hp2
  have hs3 : ∀ es, starEach (ec :: es) X.env = (false, eval ec X.env) :: starEach es X.env := fun es => plain_star hp3
  unfold tri3 at h
  split at h
  · split at h
    · rename_i hh
      cases h
      obtain ⟨h1, h2, h3⟩ := hh
      subst h1
      exact .plain (getOr_ok ha hb hc fun t u z mt mu mz ht hu hz => p_getOr hr ht hu hz (attr_base h2) (few2 (hs _) (hs3 _)) h3 (hs _) (hs3 _)) rfl
    · cases h
  · cases h
/-! targets -/
theorem snd_ns (hX : Ctx X cx s T C) : ∀ {is : List Nat} {es : List Expr}, chkNs cx s is es = true → PGs X es (gSt X.K X.w is) ∧ (assignEach es X.env).length = is.length ∧ (assignEach es X.env).findIdx? (·.1) = none
  | [], [], _ => ⟨gs_nil, rfl, rfl⟩
  | [], e :: es, h => by simp [chkNs] at h
  | i :: is, [], h => by simp [chkNs] at h
  | i :: is, e :: es, h => by
    cases e <;> simp only [chkNs, Bool.false_eq_true, Bool.and_eq_true, stn, decide_eq_true_eq] at h
    obtain ⟨⟨h1, h2⟩, h3⟩ := h
    obtain ⟨a, b, c⟩ := snd_ns hX h3
    obtain ⟨l1, l2⟩ := hX.st _ h2
    refine ⟨gs_cons hX.nd (by rw [hX.hN]; exact h1) l1 l2 a, ?_, ?_⟩
    · show ((false, _) :: assignEach es X.env).length = _
      rw [List.length_cons, List.length_cons, b]
    · show ((false, _) :: assignEach es X.env).findIdx? (·.1) = none
      rw [List.findIdx?_cons]
      simp only [Bool.false_eq_true, if_false, c, Option.map_none]
theorem snd_T (hX : Ctx X cx s T C) {ct : Ct} (h : chkT cx s ct tg = true) : PG X tg (gT X.K X.w ct) := by
  cases ct with
  | nm i =>
    cases tg <;> simp only [chkT, Bool.false_eq_true, Bool.and_eq_true, stn, decide_eq_true_eq] at h
    obtain ⟨l1, l2⟩ := hX.st _ h.2
    exact g_nm hX.nd (by rw [hX.hN]; exact h.1) l1 l2
  | tp is =>
    cases tg <;> simp only [chkT, Bool.false_eq_true] at h
    obtain ⟨a, b, c⟩ := snd_ns hX h
    exact g_tp hX.calm a b c
end
end Ky
end

section
set_option autoImplicit false
set_option linter.all false
set_option maxRecDepth 100000
set_option Elab.async false
/-! The checker is right: all expressions. -/
namespace Ky
open PySem PySem.Spec L2
open PyProof.Rows hiding St
section
variable {X : Cx} {cx : Ck} {s : Sk} {T : List D} {C : Calls} {e ea eb ec tg iter : Expr} {es : List Expr}
theorem star_any : ∀ {es : List Expr} {pos : Pos}, es.all plainE = true → (backTo pos (starEach es X.env)).any (·.1) = false
  | [], _, _ => rfl
  | e :: es, pos, h => by
    rw [List.all_cons, Bool.and_eq_true] at h
    rw [plain_star h.1]
    show (false || (backTo pos (starEach es X.env)).any (·.1)) = false
    rw [star_any (es := es) h.2]; rfl
theorem chkAs_plain : ∀ {as : Cas} {l : List Expr}, chkAs cx as s l = true → l.all plainE = true
  | .nil, [], _ => rfl
  | .nil, _ :: _, h => by simp [chkAs] at h
  | .ex c r, [], h => by simp [chkAs] at h
  | .ex c r, e :: es, h => by
    simp only [chkAs, Bool.and_eq_true] at h
    rw [List.all_cons, h.1.1, chkAs_plain h.2]; rfl
  | .bw i r, [], h => by simp [chkAs] at h
  | .bw i r, e :: es, h => by
    cases e <;> simp only [chkAs, Bool.false_eq_true, Bool.and_eq_true] at h
    rw [List.all_cons, chkAs_plain h.2]; rfl
theorem chkI_plain {it : Ci} (h : chkI cx it s tg e = true) : plainE e = true := by
  unfold chkI at h
  split at h
  · rw [Bool.and_eq_true] at h; exact h.1
  · rfl
  · rfl
  · rfl
  · cases h
theorem ownPairs_snd (own : List Nat) : (ownPairs cx own).map (·.2) = own := by
  unfold ownPairs
  rw [List.map_map]
  exact List.map_id own
theorem subN_mem {is own : List Nat} (h : subN is own = true) : ∀ i ∈ is, i ∈ own := fun i hi => of_decide_eq_true (List.all_eq_true.mp h i hi)
theorem testOf_cs (ev : En → Option (Sl × En)) (env : En) : ((ev env).bind fun x => match x.1.dat with
    | .bool true => some (true, x.2)
    | .bool false => some (false, x.2)
    | _ => none) = testOf (ev env) := by
  unfold testOf
  cases ev env with
  | none => rfl
  | some x =>
    show (match x.1.dat with
      | .bool true => some (true, x.2)
      | .bool false => some (false, x.2)
      | _ => none) = (match x.1.dat with
      | .bool b => some (b, x.2)
      | _ => none)
    cases x.1.dat with
    | bool b => cases b <;> rfl
    | _ => rfl
theorem evalEs_len {T : List D} {C : Calls} : ∀ {es : Ces} {l : List Expr} {env : En} {ds : List D} {env1 : En}, chkEs cx es s l = true → evalEs T C es env = some (ds, env1) → ds.length = l.length
  | .nil, [], _, _, _, _, h => by cases h; rfl
  | .nil, _ :: _, _, _, _, h, _ => by simp [chkEs] at h
  | .cons c r, [], _, _, _, h, _ => by simp [chkEs] at h
  | .cons c r, e :: es, env, ds, env1, h, q => by
    simp only [chkEs, Bool.and_eq_true] at h
    obtain ⟨x, e1, q⟩ := Option.bind_eq_some_iff.mp (show (evalE T C c env).bind _ = _ from q)
    obtain ⟨y, e2, z⟩ := Option.map_eq_some_iff.mp q
    cases z
    rw [List.length_cons, List.length_cons, evalEs_len h.2 e2]
end
end Ky
end

section
set_option autoImplicit false
set_option linter.all false
set_option maxRecDepth 100000
set_option Elab.async false
set_option maxHeartbeats 4000000
/-! The checker is right: all expressions. -/
namespace Ky
open PySem PySem.Spec L2
open PyProof.Rows hiding St
section
variable {cx : Ck} {T : List D} {C : Calls}
theorem PE.none {X : Cx} {e : Expr} {ev : En → Option (Sl × En)} (h : ∀ env, ev env = Option.none) : PE X e (tO X.K X.w ev) := ⟨fun pins s σ H Q I ⟨F, env, x, env1, r, q, k⟩ => by rw [h] at q; cases q⟩
theorem snd_glb {X : Cx} {s : Sk} {k : Nat} {x : Str} {p : Pos} (hX : Ctx X cx s T C) (h1 : cx.cons[k]? = some x) (h2 : glob s.sc x = true) (h3 : (x == ("__debug__" : Str)) = false) (h4 : (x == ("__classdict__" : Str)) = false) : SndE X (.Name x p) (evalE T C (.glb k)) := by
  refine .plain ?_ rfl
  cases ht : T[k]? with
  | none => exact PE.none fun env => by show (T[k]?).map _ = Option.none; rw [ht]; rfl
  | some d =>
    obtain ⟨u, v, hm, rv, hv⟩ := hX.con _ _ _ h1 ht
    have : evalE T C (.glb k) = fun env => some (.fz d, env) := funext fun env => by show (T[k]?).map _ = _; rw [ht]; rfl
    rw [this]
    exact e_val (pe_glob (hX.gl h2) hm rv h3) hv
theorem chkEs_one {es : Ces} {s : Sk} {a : Expr} {l : List Expr} (h : chkEs cx es s (a :: l) = true) : plainE a = true := by
  cases es with
  | nil => simp [chkEs] at h
  | cons c r =>
    simp only [chkEs, Bool.and_eq_true] at h
    exact h.1.1
theorem chkEs_two {es : Ces} {s : Sk} {a b : Expr} {l : List Expr} (h : chkEs cx es s (a :: b :: l) = true) : plainE a = true ∧ plainE b = true := by
  cases es with
  | nil => simp [chkEs] at h
  | cons c r =>
    simp only [chkEs, Bool.and_eq_true] at h
    exact ⟨h.1.1, chkEs_one h.2⟩
theorem evalE_dct1 {k v : Ce} : evalE T C (.dct (.cons k (.cons v .nil))) = evDct1 (evalE T C k) (evalE T C v) := by
  funext env
  show ((evalE T C k env).bind fun x => ((evalE T C v x.2).bind fun y => ((some (([] : List D), y.2)).map fun z => (y.1.dat :: z.1, z.2))).map fun y => (x.1.dat :: y.1, y.2)).bind (fun x => (pairUp x.1).map fun kvs => (Sl.ow (.dict (dmerge [] kvs)), x.2)) = _
  unfold evDct1
  cases evalE T C k env with
  | none => rfl
  | some x =>
    show ((((evalE T C v x.2).bind fun y => ((some (([] : List D), y.2)).map fun z => (y.1.dat :: z.1, z.2))).map fun y => (x.1.dat :: y.1, y.2)).bind fun x => (pairUp x.1).map fun kvs => (Sl.ow (.dict (dmerge [] kvs)), x.2)) = (evalE T C v x.2).bind _
    cases evalE T C v x.2 with
    | none => rfl
    | some y =>
      show ((if keyable x.1.dat && noDict y.1.dat then (some []).map ((x.1.dat, y.1.dat) :: ·) else none).map fun kvs => (Sl.ow (.dict (dmerge [] kvs)), y.2)) = if keyable x.1.dat && noDict y.1.dat then _ else none
      cases keyable x.1.dat && noDict y.1.dat <;> rfl
mutual
theorem sndE : ∀ (c : Ce) {X : Cx} {s : Sk} {e : Expr}, Ctx X cx s T C → chkE cx c s e = true → SndE X e (evalE T C c)
  | .cst d, X, s, e, hX, h => snd_cst (by unfold chkE at h; exact h)
  | .glb k, X, s, e, hX, h => by
    unfold chkE at h
    split at h <;> first | contradiction | (rename_i hz0; cases hz0)
    simp only [Bool.and_eq_true, decide_eq_true_eq, okName, Bool.not_eq_true'] at h
    obtain ⟨⟨h1, h2⟩, h3, h4⟩ := h
    exact snd_glb hX h1 h2 h3 h4
  | .rd i, X, s, e, hX, h => by
    unfold chkE at h
    split at h <;> first | contradiction | (rename_i hz0; cases hz0)
    exact .plain (e_rd (hX.vis h)) rfl
  | .p1 p a, X, s, e, hX, h => by
    unfold chkE at h
    split at h <;> first | contradiction | skip
    rename_i ea hq
    rw [Bool.and_eq_true] at h
    exact snd_un1 hX hq h.1 (sndO a hX h.2)
  | .p2 p a b, X, s, e, hX, h => by
    unfold chkE at h
    split at h <;> first | contradiction | skip
    rename_i ea eb hq
    simp only [Bool.and_eq_true] at h
    exact snd_bin2 hX hq h.1.1.1 h.1.1.2 (sndO a hX h.1.2) (sndO b hX h.2)
  | .p3 p a b c, X, s, e, hX, h => by
    unfold chkE at h
    split at h <;> first | contradiction | skip
    rename_i ea eb ec hq
    simp only [Bool.and_eq_true] at h
    obtain ⟨⟨⟨⟨⟨h1, h2⟩, h3⟩, h4⟩, h5⟩, h6⟩ := h
    exact snd_tri3 hX hq h1 h2 h3 (sndO a hX h4) (sndO b hX h5) (sndO c hX h6)
  | .chain p q a b c, X, s, e, hX, h => by
    unfold chkE at h
    split at h <;> first | contradiction | (rename_i hz0; cases hz0)
    simp only [Bool.and_eq_true, decide_eq_true_eq] at h
    obtain ⟨⟨⟨⟨⟨⟨⟨hp, hq⟩, h1⟩, h2⟩, h3⟩, h4⟩, h5⟩, h6⟩ := h
    obtain ⟨k, hr, _⟩ := hX.room
    obtain ⟨o1, f1⟩ := p_cmp (X := X) hr hp
    obtain ⟨o2, f2⟩ := p_cmp (X := X) hr hq
    exact .cmp (e_chain f1 f2 o1 o2 (sndO a hX h4) (sndO b hX h5) (sndO c hX h6) (by show behindInMarks _ _ = false; exact plain_mark h3))
  | .and a b, X, s, e, hX, h => by
    unfold chkE at h
    split at h <;> first | contradiction | (rename_i hz0; cases hz0)
    rename_i ea eb rest pos
    rw [Bool.and_eq_true] at h
    have ha := sndE a hX h.1
    cases rest with
    | nil =>
      have hb := sndE b hX h.2
      have w := w_and (pos := pos) ha.2.1 (pw_and1 hb.2.1)
      exact ⟨e_and ha.1 (pe_one hb.1), w.pt, fun op vs p z => by cases z; exact w⟩
    | cons r rs =>
      have hb := sndE b hX h.2
      have w := w_and (pos := pos) ha.2.1 (hb.2.2 _ _ _ rfl)
      exact ⟨e_and ha.1 hb.1, w.pt, fun op vs p z => by cases z; exact w⟩
  | .or a b, X, s, e, hX, h => by
    unfold chkE at h
    split at h <;> first | contradiction | (rename_i hz0; cases hz0)
    rename_i ea eb rest pos
    rw [Bool.and_eq_true] at h
    have ha := sndE a hX h.1
    cases rest with
    | nil =>
      have hb := sndE b hX h.2
      have w := w_or (pos := pos) ha.2.1 (pw_or1 hb.2.1)
      exact ⟨e_or ha.1 (pe_one hb.1), w.pt, fun op vs p z => by cases z; exact w⟩
    | cons r rs =>
      have hb := sndE b hX h.2
      have w := w_or (pos := pos) ha.2.1 (hb.2.2 _ _ _ rfl)
      exact ⟨e_or ha.1 hb.1, w.pt, fun op vs p z => by cases z; exact w⟩
  | .not a, X, s, e, hX, h => by
    unfold chkE at h
    split at h <;> first | contradiction | (rename_i hz0; cases hz0)
    have ha := sndE a hX h
    exact ⟨e_not ha.1, t_not ha.2.1, fun _ _ _ z => nomatch z⟩
  | .ite c a b, X, s, e, hX, h => by
    unfold chkE at h
    split at h <;> first | contradiction | (rename_i hz0; cases hz0)
    simp only [Bool.and_eq_true] at h
    have hc := sndE c hX h.1.1
    have ha := sndE a hX h.1.2
    have hb := sndE b hX h.2
    exact ⟨e_ite hc.2.1 ha.1 hb.1, t_ite hc.2.1 ha.2.1 hb.2.1, fun _ _ _ z => nomatch z⟩
  | .tup es, X, s, e, hX, h => by
    unfold chkE at h
    split at h <;> first | contradiction | (rename_i hz0; cases hz0)
    exact .plain (e_tup (sndEs es hX h)) rfl
  | .lst es, X, s, e, hX, h => by
    unfold chkE at h
    split at h <;> first | contradiction | (rename_i hz0; cases hz0)
    exact .plain (e_lst (sndEs es hX h)) rfl
  | .dct .nil, X, s, e, hX, h => by
    unfold chkE at h
    split at h <;> first | contradiction | (rename_i hz0; cases hz0)
    have : evalE T C (.dct .nil) = fun env => some (.ow (.dict []), env) := rfl
    rw [this]
    exact .plain e_dct0 rfl
  | .dct (.cons k .nil), X, s, e, hX, h => by
    unfold chkE at h
    contradiction
  | .dct (.cons k (.cons v (.cons _ _))), X, s, e, hX, h => by
    unfold chkE at h
    contradiction
  | .dct (.cons k (.cons v .nil)), X, s, e, hX, h => by
    unfold chkE at h
    split at h <;> first | contradiction | (rename_i hz0; cases hz0)
    rw [Bool.and_eq_true] at h
    obtain ⟨kk, hr, _⟩ := hX.room
    rw [evalE_dct1]
    exact .plain (e_dct1 hr (sndE k hX h.1).1 (sndE v hX h.2).1) rfl
  | .call f as, X, s, e, hX, h => by
    unfold chkE at h
    split at h <;> first | contradiction | (rename_i hz0; cases hz0)
    simp only [Bool.and_eq_true, decide_eq_true_eq, okName, Bool.not_eq_true'] at h
    obtain ⟨⟨⟨h1, h2⟩, h3, h4⟩, h5⟩ := h
    obtain ⟨k, hr, hf⟩ := hX.room
    obtain ⟨f', fd, ps, np, m1, m2, m3, m4, m5⟩ := hf _ _ h1
    have hpl := chkAs_plain h5
    rw [List.all_cons, Bool.and_eq_true] at hpl
    exact .plain ((pe_call m4 hr (hX.gl h2) m1 m2 m3 .nil pass0 (sndAs as hX h5) h3 (plain_star hpl.1) (star_any hpl.2)).weak fun σ H Q q => call_imp m5 σ H Q E0 q) rfl
  | .mut m i es, X, s, e, hX, h => by
    unfold chkE at h
    split at h <;> first | contradiction | (rename_i hz0; cases hz0)
    simp only [Bool.and_eq_true, decide_eq_true_eq] at h
    obtain ⟨⟨⟨h1, h2⟩, h3⟩, h4⟩ := h
    subst h1
    have hp := chkEs_one h4
    exact .plain (e_append (hX.vis h2) (sndEs es hX h4) (attr_base rfl) (few1 (plain_star hp)) h3 (plain_star hp)) rfl
  | .lc tg it cs e own, X, s, ex, hX, h => by
    unfold chkE at h
    split at h <;> first | contradiction | (rename_i hz0; cases hz0)
    rename_i elt tgx iter ifs scope pos
    simp only [Bool.and_eq_true] at h
    obtain ⟨⟨⟨⟨⟨h1, h2⟩, h3⟩, h4⟩, h5⟩, h6⟩ := h
    have ok : BlkOk X.N X.env.scope scope (ownPairs cx own) := by rw [hX.hN, hX.sc]; exact blkOk_by h2
    have hk := ok.kind
    have := pe_lc (wi := tI X.K X.w (evalI T C it)) (g := gT X.K X.w tg) (tt := tC' X.K X.w (evalCs T C cs)) (te := tF X.K X.w (evalE T C e)) hX.calm hX.nd (sndI it hX h1) ok (fun s H C' cl fp => snd_T (hX.blk hk s H C' cl fp) h4) (fun s H C' cl fp => sndCs cs (hX.blk hk s H C' cl fp) h5) (fun s H C' cl fp => PE.frz (sndE e (hX.blk hk s H C' cl fp) h6).1) (pos := pos) (fun x => plain_fold (chkI_plain h1) x)
    rw [ownPairs_snd] at this
    exact .plain (this.weak fun σ H Q q => lc_imp (subN_mem h3) σ H Q q) rfl
  | .lcS .., X, s, e, hX, h => by
    unfold chkE at h
    contradiction
  | .lc2 tg it cs tg1 it1 cs1 e own own1, X, s, ex, hX, h => by
    unfold chkE at h
    split at h <;> first | contradiction | (rename_i hz0; cases hz0)
    rename_i elt tgx iter ifs tgx1 iter1 ifs1 scope pos
    simp only [Bool.and_eq_true] at h
    obtain ⟨⟨⟨⟨⟨⟨⟨⟨⟨⟨h1, h2⟩, h3⟩, h3b⟩, h3c⟩, h4⟩, h5⟩, h7⟩, h8⟩, h9⟩, h6⟩ := h
    have ok : BlkOk X.N X.env.scope scope (ownPairs cx own) := by rw [hX.hN, hX.sc]; exact blkOk_by h2
    have hk := ok.kind
    have := pe_lc2 (wi := tI X.K X.w (evalI T C it)) (g := gT X.K X.w tg) (tt := tC' X.K X.w (evalCs T C cs)) (wi1 := tI X.K X.w (evalI T C it1)) (g1 := gT X.K X.w tg1) (tt1 := tC' X.K X.w (evalCs T C cs1)) (te := tF X.K X.w (evalE T C e)) (vs1 := own1) hX.calm hX.nd (sndI it hX h1) ok (by rw [ownPairs_snd]; exact subN_mem h3c) (fun s H C' cl fp => snd_T (hX.blk hk s H C' cl fp) h4) (fun s H C' cl fp => sndCs cs (hX.blk hk s H C' cl fp) h5) (fun s H C' cl fp => sndI it1 (hX.blk hk s H C' cl fp) h7)
      (fun s H C' cl fp => snd_T (hX.blk hk s H C' cl fp) h8) (fun s H C' cl fp => sndCs cs1 (hX.blk hk s H C' cl fp) h9) (fun s H C' cl fp => PE.frz (sndE e (hX.blk hk s H C' cl fp) h6).1) (pos := pos) (fun x => plain_fold (chkI_plain h1) x) (fun env x => plain_fold (chkI_plain h7) x)
    rw [ownPairs_snd] at this
    exact .plain (this.weak fun σ H Q q => lc2_imp (subN_mem h3) (subN_mem h3b) (subN_mem h3c) σ H Q q) rfl
  | .dc tg it cs k v own, X, s, ex, hX, h => by
    unfold chkE at h
    split at h <;> first | contradiction | (rename_i hz0; cases hz0)
    rename_i kx vx tgx iter ifs scope pos
    simp only [Bool.and_eq_true] at h
    obtain ⟨⟨⟨⟨⟨⟨h1, h2⟩, h3⟩, h4⟩, h5⟩, h6⟩, h7⟩ := h
    have ok : BlkOk X.N X.env.scope scope (ownPairs cx own) := by rw [hX.hN, hX.sc]; exact blkOk_by h2
    have hk := ok.kind
    obtain ⟨kk, hr, _⟩ := hX.room
    have := e_dcR (wi := tI X.K X.w (evalI T C it)) (g := gT X.K X.w tg) (tt := tC' X.K X.w (evalCs T C cs)) (tk := tF X.K X.w (evalE T C k)) (tv := tF X.K X.w (evalE T C v)) hr hX.calm hX.nd (sndI it hX h1) ok (fun s H C' cl fp => snd_T (hX.blk hk s H C' cl fp) h4) (fun s H C' cl fp => sndCs cs (hX.blk hk s H C' cl fp) h5) (fun s H C' cl fp => PE.frz (sndE k (hX.blk hk s H C' cl fp) h6).1) (fun s H C' cl fp => PE.frz (sndE v (hX.blk hk s H C' cl fp) h7).1) (pos := pos) (fun x => plain_fold (chkI_plain h1) x)
    rw [ownPairs_snd] at this
    exact .plain (this.weak fun σ H Q q => dc_imp (subN_mem h3) σ H Q q) rfl
theorem sndO : ∀ (c : Co) {X : Cx} {s : Sk} {e : Expr}, Ctx X cx s T C → chkO cx c s e = true → PE X e (tW X.K X.w (evalO T C c))
  | .ex c, X, s, e, hX, h => op_ex (sndE c hX (by unfold chkO at h; exact h)).1
  | .pk i, X, s, e, hX, h => by
    unfold chkO at h
    split at h <;> first | contradiction | (rename_i hz0; cases hz0)
    exact op_pk (hX.vis h)
theorem sndEs : ∀ (c : Ces) {X : Cx} {s : Sk} {l : List Expr}, Ctx X cx s T C → chkEs cx c s l = true → PA X l (tEs X.K X.w (evalEs T C c))
  | .nil, X, s, l, hX, h => by
    unfold chkEs at h
    split at h <;> first | contradiction | (rename_i hz0; cases hz0)
    exact es_nil
  | .cons c r, X, s, l, hX, h => by
    unfold chkEs at h
    split at h <;> first | contradiction | (rename_i hz0; cases hz0)
    simp only [Bool.and_eq_true] at h
    exact es_cons (sndE c hX h.1.2).1 (sndEs r hX h.2) (plain_star h.1.1)
theorem sndAs : ∀ (c : Cas) {X : Cx} {s : Sk} {l : List Expr}, Ctx X cx s T C → chkAs cx c s l = true → PA X l (tAs X.K X.w (evalAs T C c))
  | .nil, X, s, l, hX, h => by
    unfold chkAs at h
    split at h <;> first | contradiction | (rename_i hz0; cases hz0)
    exact as_nil
  | .ex c r, X, s, l, hX, h => by
    unfold chkAs at h
    split at h <;> first | contradiction | (rename_i hz0; cases hz0)
    simp only [Bool.and_eq_true] at h
    exact as_ex (sndE c hX h.1.2).1 (sndAs r hX h.2) (plain_star h.1.1)
  | .bw i r, X, s, l, hX, h => by
    unfold chkAs at h
    split at h <;> first | contradiction | (rename_i hz0; cases hz0)
    simp only [Bool.and_eq_true] at h
    exact as_bw (hX.vis h.1) (sndAs r hX h.2) (plain_star rfl)
theorem sndCs : ∀ (c : Ces) {X : Cx} {s : Sk} {l : List Expr}, Ctx X cx s T C → chkCs cx c s l = true → PTs X l (tC' X.K X.w (evalCs T C c))
  | .nil, X, s, l, hX, h => by
    unfold chkCs at h
    split at h <;> first | contradiction | (rename_i hz0; cases hz0)
    exact c_nil
  | .cons c .nil, X, s, l, hX, h => by
    unfold chkCs at h
    split at h <;> first | contradiction | (rename_i hz0; cases hz0)
    have : evalCs T C (.cons c .nil) = fun env => testOf (evalE T C c env) := funext fun env => testOf_cs (evalE T C c) env
    rw [this]
    exact c_one (sndE c hX h).2.1
  | .cons c (.cons _ _), X, s, l, hX, h => by
    unfold chkCs at h
    contradiction
theorem sndI : ∀ (c : Ci) {X : Cx} {s : Sk} {tg e : Expr}, Ctx X cx s T C → chkI cx c s tg e = true → PI X tg e (tI X.K X.w (evalI T C c))
  | .ex c, X, s, tg, e, hX, h => by
    unfold chkI at h
    rw [Bool.and_eq_true] at h
    exact i_ex (sndE c hX h.2).1
  | .rng es, X, s, tg, e, hX, h => by
    unfold chkI at h
    split at h <;> first | contradiction | (rename_i hz0; cases hz0)
    rename_i f _ args _
    simp only [Bool.and_eq_true, decide_eq_true_eq] at h
    obtain ⟨⟨⟨h1, h2⟩, h3⟩, h4⟩ := h
    subst h1
    have hl : ∀ env ds env1, evalEs T C es env = some (ds, env1) → ds.length = args.length := fun env ds env1 q => evalEs_len h4 q
    have ha := sndEs es hX h4
    match args, h3, h4, hl, ha with
    | [a], _, h4, hl, ha =>
      have hp := chkEs_one h4
      exact i_rng1 (hX.gl h2) (hX.blt _ (by decide)) ha hl (plain_star hp)
    | [a, b], _, h4, hl, ha =>
      have hp := chkEs_two h4
      exact i_rng2 (hX.gl h2) (hX.blt _ (by decide)) ha hl (by rw [plain_star hp.1, plain_star hp.2]; rfl) (plain_star hp.2)
    | [], h3, _, _, _ => simp at h3
    | _ :: _ :: _ :: _, h3, _, _, _ => simp at h3
  | .zip es, X, s, tg, e, hX, h => by
    unfold chkI at h
    split at h <;> first | contradiction | (rename_i hz0; cases hz0)
    rename_i f _ a b _
    simp only [Bool.and_eq_true, decide_eq_true_eq] at h
    obtain ⟨⟨h1, h2⟩, h4⟩ := h
    subst h1
    have hl : ∀ env ds env1, evalEs T C es env = some (ds, env1) → ds.length = [a, b].length := fun env ds env1 q => evalEs_len h4 q
    have ha := sndEs es hX h4
    have hp := chkEs_two h4
    exact i_zip2 (hX.gl h2) (hX.blt _ (by decide)) ha hl (plain_star hp.1) (star_any (by rw [List.all_cons, hp.2]; rfl))
  | .enum c, X, s, tg, e, hX, h => by
    unfold chkI at h
    split at h <;> first | contradiction | (rename_i hz0; cases hz0)
    simp only [Bool.and_eq_true, decide_eq_true_eq] at h
    obtain ⟨⟨⟨h1, h2⟩, h3⟩, h4⟩ := h
    subst h1
    exact i_enum (hX.gl h2) (hX.blt _ (by decide)) (sndE c hX h4).1 (plain_star h3)
end
end
end Ky
end

section
set_option autoImplicit false
set_option linter.all false
set_option maxRecDepth 100000
set_option Elab.async false
/-! How the model stores: the checker's view is right. -/
namespace Ky
open PySem PySem.Spec L2
open PyProof.Rows hiding St
theorem blockKind_fn {env : Env} (h : env.scope.kind = .function) : env.blockKind = .function := by
  unfold Env.blockKind
  rw [h]; rfl
theorem sw_lc {env : Env} {sc : Scope} (hs : env.scope = sc) (hk : env.scope.kind = .function) {e : Expr} {gs : List Comprehension} {scope : Scope} {vp xp : Pos} {x : Str} {line : Nat} : swapsWith (.ListComp e gs scope vp) (some (.Name x xp)) line env = pure (swB sc scope vp xp x) := by
  subst hs
  show (pure (env.blockKind == .function && env.kindOf x == some .local && xp.line == vp.line && !(scope.names.any fun (n, k) => n == x && (k == .local || k == .cell))) : Sem Bool) = _
  rw [blockKind_fn hk]
  rfl
theorem sw_dc {env : Env} {sc : Scope} (hs : env.scope = sc) (hk : env.scope.kind = .function) {e e2 : Expr} {gs : List Comprehension} {scope : Scope} {vp xp : Pos} {x : Str} {line : Nat} : swapsWith (.DictComp e e2 gs scope vp) (some (.Name x xp)) line env = pure (swB sc scope vp xp x) := by
  subst hs
  show (pure (env.blockKind == .function && env.kindOf x == some .local && xp.line == vp.line && !(scope.names.any fun (n, k) => n == x && (k == .local || k == .cell))) : Sem Bool) = _
  rw [blockKind_fn hk]
  rfl
theorem sw_par {env : Env} {sc : Scope} (hs : env.scope = sc) (hk : env.scope.kind = .function) {ts vs : List Expr} {k k2 : Nat} {p p2 : Pos} {r : Option (List Str)} (h : swP sc ts vs = some r) : swappedStores [.Tuple ts k p] (.Tuple vs k2 p2) env = pure r := by
  subst hs
  unfold swP at h
  unfold swappedStores
  simp only [blockKind_fn hk]
  have b0 : (ScopeKind.function != ScopeKind.function) = false := rfl
  simp only [b0, Bool.or_false]
  split at h
  · rename_i c
    cases h
    rw [if_pos c]
  · rename_i c
    rw [if_neg c]
    split at h
    · rename_i c2
      cases h
      exact if_pos c2
    · rename_i c2
      refine (if_neg c2).trans ?_
      (try dsimp only at h ⊢)
      split at h
      · rename_i c3
        cases h
        exact if_pos c3
      · rename_i c3
        refine (if_neg c3).trans ?_
        split at h
        · rename_i c4
          cases h
          exact if_pos c4
        · rename_i c4
          refine (if_neg c4).trans ?_
          split at h
          · cases h
          · rename_i c5
            refine (if_neg c5).trans ?_
            cases h
            rfl
theorem sw_tup {env : Env} {ts : List Expr} {k : Nat} {p : Pos} {v : Expr} (h : notTup v = true) : swappedStores [.Tuple ts k p] v env = pure none := by
  cases v <;> first | rfl | cases h
end Ky
end

section
set_option autoImplicit false
set_option linter.all false
set_option maxRecDepth 100000
set_option Elab.async false
set_option maxHeartbeats 4000000
/-! The checker is right: statements. -/
namespace Ky
open PySem PySem.Spec L2
open PyProof.Rows hiding St
section
variable {cx : Ck} {T : List D} {C : Calls} {X : Cx} {s : Sk} {kp : List Nat}
theorem aug_add {d e r : D} (h : augD .add d e = some r) : ∃ i j : Int, d = .int i ∧ e = .int j ∧ r = .int (i + j) := by
  cases d <;> cases e <;> first | (cases h; exact ⟨_, _, rfl, rfl, rfl⟩) | cases h
theorem aug_sub {d e r : D} (h : augD .sub d e = some r) : ∃ i j : Int, d = .int i ∧ e = .int j ∧ r = .int (i - j) := by
  cases d <;> cases e <;> first | (cases h; exact ⟨_, _, rfl, rfl, rfl⟩) | cases h
theorem snd_Ss (hX : Ctx X cx s T C) : ∀ {is : List (Nat × Bool)} {es : Ces} {l : List Expr}, chkSs cx is es s l = true → PA X l (tSs X.K X.w (evalSs T C is es))
  | [], .nil, [], _ => ss_nil
  | [], .nil, _ :: _, h => by simp [chkSs] at h
  | [], .cons _ _, _, h => by simp [chkSs] at h
  | _ :: _, .nil, _, h => by simp [chkSs] at h
  | _ :: _, .cons _ _, [], h => by simp [chkSs] at h
  | (i, own) :: is, .cons c r, e :: es, h => by
    simp only [chkSs, Bool.and_eq_true] at h
    have := ss_cons (e_th own (sndE c hX h.1.2).1) (snd_Ss hX h.2) (plain_star h.1.1)
    have q : (fun env => (((evalE T C c env).map fun x => (if own then x.1 else x.1.thaw, x.2)).bind fun x => (evalSs T C is r x.2).map fun y => (x.1 :: y.1, y.2))) = evalSs T C ((i, own) :: is) (.cons c r) := funext fun env => by
      show _ = (evalE T C c env).bind _
      cases evalE T C c env <;> rfl
    rw [← q]
    exact this
theorem snd_ga (hX : Ctx X cx s T C) : ∀ {is : List (Nat × Bool)} {ts : List Expr}, chkNs cx s (is.map (·.1)) ts = true → PGs X ts (gAll is)
  | [], [], _ => ga_nil
  | [], _ :: _, h => by simp [chkNs] at h
  | _ :: _, [], h => by simp [chkNs] at h
  | (i, f) :: is, e :: es, h => by
    rw [List.map_cons] at h
    cases e <;> simp only [chkNs, Bool.false_eq_true, Bool.and_eq_true, stn, decide_eq_true_eq] at h
    obtain ⟨⟨h1, h2⟩, h3⟩ := h
    obtain ⟨l1, l2⟩ := hX.st _ h2
    exact ga_cons hX.nd (by rw [hX.hN]; exact h1) l1 l2 (snd_ga hX h3)
theorem disN_mem {is kp : List Nat} (h : disN is kp = true) : ∀ i ∈ is, i ∉ kp := fun i hi => of_decide_eq_true (List.all_eq_true.mp h i hi)
theorem snd_par (hX : Ctx X cx s T C) {is : List (Nat × Bool)} {es : Ces} {ts vs : List Expr} {k k2 : Nat} {p p2 pos : Pos} (h1 : chkSs cx is es s vs = true) (h2 : chkPar cx s is ts vs = true) (h3 : disN (is.map (·.1)) kp = true) :
    PS X (.Assign [.Tuple ts k p] (.Tuple vs k2 p2) pos) (tS X.K X.w kp (execS T C (.par is es))) := by
  refine s_parG ?_ fun q hq => disN_mem h3 _ (List.mem_map.mpr ⟨q, hq, rfl⟩)
  have ha := snd_Ss hX h1
  unfold chkPar at h2
  split at h2
  · rename_i hw
    rw [Bool.and_eq_true, decide_eq_true_eq] at h2
    obtain ⟨_, n1, n2⟩ := snd_ns hX h2.2
    rw [List.length_map] at n1
    exact s_parT hX.calm (snd_ga hX h2.2) n1 n2 ha h2.1 (sw_par hX.sc hX.kind hw)
  · rename_i ns hw
    split at h2
    · simp only [Bool.and_eq_true, decide_eq_true_eq] at h2
      obtain ⟨⟨⟨⟨⟨a1, a2⟩, a3⟩, a4⟩, a5⟩, a6⟩ := h2
      subst a1
      exact s_par2 hX.calm hX.nd (by rw [hX.hN]; exact a2) (by rw [hX.hN]; exact a3) a4 (by rw [hX.sc]; exact a5) (by rw [hX.sc]; exact a6) ha (sw_par hX.sc hX.kind hw)
    · simp only [Bool.and_eq_true, decide_eq_true_eq] at h2
      obtain ⟨⟨⟨⟨⟨⟨⟨⟨⟨a1, a2⟩, a3⟩, a4⟩, a5⟩, a6⟩, a7⟩, a8⟩, a9⟩, a10⟩ := h2
      subst a1
      exact s_par3 hX.calm hX.nd (by rw [hX.hN]; exact a2) (by rw [hX.hN]; exact a3) (by rw [hX.hN]; exact a4) a5 a6 a7 (by rw [hX.sc]; exact a8) (by rw [hX.sc]; exact a9) (by rw [hX.sc]; exact a10) ha (sw_par hX.sc hX.kind hw)
    · cases h2
  · cases h2
/-- a comprehension stored within itself -/
theorem snd_asgC (hX : Ctx X cx s T C) {c : Ce} {v : Expr} {i : Nat} {x : Str} {xp pos : Pos} (h : chkE cx c s v = true) (hv : notComp v = false) (hsw : swapsWith v (some (.Name x xp)) pos.line X.env = pure true) (hy : X.N[i]? = some x) (hyl : X.env.scope.names.lookup x = some .local) :
    ∃ t, PS X (.Assign [.Name x xp] v pos) (tAsg t (gName i)) ∧ ∀ σ H Q, tO X.K X.w (evalE T C c) σ H Q → t σ H Q := by
  cases c with
  | lc tg it cs e own =>
    unfold chkE at h
    split at h <;> first | contradiction | (rename_i hz0; cases hz0)
    rename_i elt tgx iter ifs scope pos
    simp only [Bool.and_eq_true] at h
    obtain ⟨⟨⟨⟨⟨h1, h2⟩, h3⟩, h4⟩, h5⟩, h6⟩ := h
    have ok : BlkOk X.N X.env.scope scope (ownPairs cx own) := by rw [hX.hN, hX.sc]; exact blkOk_by h2
    have hk := ok.kind
    have := ps_setLc (wi := tI X.K X.w (evalI T C it)) (g := gT X.K X.w tg) (tt := tC' X.K X.w (evalCs T C cs)) (te := tF X.K X.w (evalE T C e)) hX.calm hX.nd hy hyl hsw (sndI it hX h1) ok (fun s H C' cl fp => snd_T (hX.blk hk s H C' cl fp) h4) (fun s H C' cl fp => sndCs cs (hX.blk hk s H C' cl fp) h5) (fun s H C' cl fp => PE.frz (sndE e (hX.blk hk s H C' cl fp) h6).1) (fun x => plain_fold (chkI_plain h1) x)
    rw [ownPairs_snd] at this
    exact ⟨_, this, fun σ H Q q => lc_imp (subN_mem h3) σ H Q q⟩
  | lc2 tg it cs tg1 it1 cs1 e own own1 =>
    unfold chkE at h
    split at h <;> first | contradiction | (rename_i hz0; cases hz0)
    rename_i elt tgx iter ifs tgx1 iter1 ifs1 scope pos
    simp only [Bool.and_eq_true] at h
    obtain ⟨⟨⟨⟨⟨⟨⟨⟨⟨⟨h1, h2⟩, h3⟩, h3b⟩, h3c⟩, h4⟩, h5⟩, h7⟩, h8⟩, h9⟩, h6⟩ := h
    have ok : BlkOk X.N X.env.scope scope (ownPairs cx own) := by rw [hX.hN, hX.sc]; exact blkOk_by h2
    have hk := ok.kind
    have := ps_setLc2 (wi := tI X.K X.w (evalI T C it)) (g := gT X.K X.w tg) (tt := tC' X.K X.w (evalCs T C cs)) (wi1 := tI X.K X.w (evalI T C it1)) (g1 := gT X.K X.w tg1) (tt1 := tC' X.K X.w (evalCs T C cs1)) (te := tF X.K X.w (evalE T C e)) (vs1 := own1) hX.calm hX.nd hy hyl hsw (sndI it hX h1) ok (by rw [ownPairs_snd]; exact subN_mem h3c) (fun s H C' cl fp => snd_T (hX.blk hk s H C' cl fp) h4) (fun s H C' cl fp => sndCs cs (hX.blk hk s H C' cl fp) h5) (fun s H C' cl fp => sndI it1 (hX.blk hk s H C' cl fp) h7)
      (fun s H C' cl fp => snd_T (hX.blk hk s H C' cl fp) h8) (fun s H C' cl fp => sndCs cs1 (hX.blk hk s H C' cl fp) h9) (fun s H C' cl fp => PE.frz (sndE e (hX.blk hk s H C' cl fp) h6).1) (fun x => plain_fold (chkI_plain h1) x) (fun env x => plain_fold (chkI_plain h7) x)
    rw [ownPairs_snd] at this
    exact ⟨_, this, fun σ H Q q => lc2_imp (subN_mem h3) (subN_mem h3b) (subN_mem h3c) σ H Q q⟩
  | dc tg it cs k v own =>
    unfold chkE at h
    split at h <;> first | contradiction | (rename_i hz0; cases hz0)
    rename_i kx vx tgx iter ifs scope pos
    simp only [Bool.and_eq_true] at h
    obtain ⟨⟨⟨⟨⟨⟨h1, h2⟩, h3⟩, h4⟩, h5⟩, h6⟩, h7⟩ := h
    have ok : BlkOk X.N X.env.scope scope (ownPairs cx own) := by rw [hX.hN, hX.sc]; exact blkOk_by h2
    have hk := ok.kind
    obtain ⟨kk, hr, _⟩ := hX.room
    have := s_dcR (wi := tI X.K X.w (evalI T C it)) (g := gT X.K X.w tg) (tt := tC' X.K X.w (evalCs T C cs)) (tk := tF X.K X.w (evalE T C k)) (tv := tF X.K X.w (evalE T C v)) hr hX.calm hX.nd hy hyl hsw (sndI it hX h1) ok (fun s H C' cl fp => snd_T (hX.blk hk s H C' cl fp) h4) (fun s H C' cl fp => sndCs cs (hX.blk hk s H C' cl fp) h5) (fun s H C' cl fp => PE.frz (sndE k (hX.blk hk s H C' cl fp) h6).1) (fun s H C' cl fp => PE.frz (sndE v (hX.blk hk s H C' cl fp) h7).1) (fun x => plain_fold (chkI_plain h1) x)
    rw [ownPairs_snd] at this
    exact ⟨_, this, fun σ H Q q => dc_imp (subN_mem h3) σ H Q q⟩
  | cst d =>
    unfold chkE cstOk at h
    split at h <;> first | contradiction | cases hv
  | p1 p a =>
    unfold chkE at h
    split at h <;> first | contradiction | skip
    rename_i hq
    unfold un1 at hq
    split at hq <;> first | contradiction | cases hv
  | p2 p a b =>
    unfold chkE at h
    split at h <;> first | contradiction | skip
    rename_i hq
    unfold bin2 at hq
    split at hq <;> first | contradiction | cases hv
  | p3 p a b c =>
    unfold chkE at h
    split at h <;> first | contradiction | skip
    rename_i hq
    unfold tri3 at hq
    split at hq <;> first | contradiction | cases hv
  | _ =>
    unfold chkE at h
    first
    | contradiction
    | (split at h <;> first | contradiction | (exfalso; revert hv; simp [notComp]; done))
end
end Ky
end

section
set_option autoImplicit false
set_option linter.all false
set_option maxRecDepth 100000
set_option Elab.async false
set_option maxHeartbeats 4000000
/-! The checker is right: blocks. -/
namespace Ky
open PySem PySem.Spec L2
open PyProof.Rows hiding St
section
variable {cx : Ck} {T : List D} {C : Calls} {X : Cx} {s : Sk} {kp : List Nat}
theorem nm_vis (hX : Ctx X cx s T C) {i : Nat} {x : Str} (h : stn cx s i x = true) : X.N[i]? = some x ∧ Loc X.env.scope x ∧ (X.fn x = true ∨ X.env.scope.names.lookup x = some .local) := by
  simp only [stn, Bool.and_eq_true, decide_eq_true_eq] at h
  obtain ⟨l1, l2⟩ := hX.st _ h.2
  exact ⟨by rw [hX.hN]; exact h.1, l1, l2⟩
theorem es1 {c : Ce} : evalEs T C (.cons c .nil) = fun env => (evalE T C c env).map fun y => ([y.1.dat], y.2) := funext fun env => by
  show (evalE T C c env).bind _ = _
  cases evalE T C c env <;> rfl
theorem es2 {c k : Ce} : evalEs T C (.cons c (.cons k .nil)) = fun env => (evalE T C c env).bind fun y => (evalE T C k y.2).map fun z => ([y.1.dat, z.1.dat], z.2) := funext fun env => by
  show (evalE T C c env).bind _ = _
  cases evalE T C c env with
  | none => rfl
  | some y =>
    show (((evalE T C k y.2).bind fun x => some ([x.1.dat], x.2)).map fun z => (y.1.dat :: z.1, z.2)) = (evalE T C k y.2).map _
    cases evalE T C k y.2 <;> rfl
theorem es1c {c : Ce} {j : Int} : evalEs T C (.cons c (.cons (.cst (.int j)) .nil)) = fun env => (evalE T C c env).map fun y => ([y.1.dat, .int j], y.2) := funext fun env => by
  show (evalE T C c env).bind _ = _
  cases evalE T C c env <;> rfl
theorem plain_asg {x k : Expr} {pos : Pos} (h : plainE k = true) (v : Value) : assign (.Subscript x k pos) X.env v = (do
      let ov ← holding [v] (eval x X.env)
      let iv ← holding [v, ov] (eval k X.env)
      standAt pos
      holding [v, ov, iv] (setItem ov iv v)
      release [v, ov, iv] []) := by
  cases k <;> first | rfl | cases h
theorem plain_aug {k : Expr} (h : plainE k = true) (ov iv new : Value) : augStore k ov iv new = (do holding [new, ov, iv] (setItem ov iv new); release [new, ov, iv] []; pure .next) := by
  cases k <;> first | rfl | cases h
theorem sole {t v : Expr} {line : Nat} {env : Env} (h : swapsWith v (some t) line env = pure false) : swapsWithSole [t] v line env = pure false := by
  unfold swapsWithSole
  exact h
mutual
theorem sndS : ∀ (c : Cs) {s : Sk} {e : Stmt}, Ctx X cx s T C → PassesOwn (model X.prog X.w) X.A X.env X.xe → chkS cx kp c s e = true → PS X e (tS X.K X.w kp (execS T C c))
  | .asg i own c, s, e, hX, hp, h => by
    unfold chkS at h
    split at h <;> first | contradiction | (rename_i hz0; cases hz0)
    rename_i x xp v pos
    simp only [Bool.and_eq_true, decide_eq_true_eq] at h
    obtain ⟨⟨⟨h1, h2⟩, h3⟩, h4⟩ := h
    obtain ⟨n1, n2, n3⟩ := nm_vis hX h1
    have plain : swapsWith v (some (.Name x xp)) pos.line X.env = pure false → PS X (.Assign [.Name x xp] v pos) (tS X.K X.w kp (execS T C (.asg i own c))) := fun q =>
      s_asg (own := own) (ps_set hX.nd n1 n2 (sndE c hX h3).1 q n3) (fun σ H Q q => q) h2
    have comp : notComp v = false → (∃ b, swapsWith v (some (.Name x xp)) pos.line X.env = pure b ∧ (b = true → X.env.scope.names.lookup x = some .local)) → PS X (.Assign [.Name x xp] v pos) (tS X.K X.w kp (execS T C (.asg i own c))) := fun hv ⟨b, q, ql⟩ => by
      cases b with
      | false => exact plain q
      | true =>
        obtain ⟨t, g1, g2⟩ := snd_asgC hX h3 hv q n1 (ql rfl)
        exact s_asg (own := own) g1 g2 h2
    cases v with
    | ListComp a b scope vp =>
      refine comp rfl ⟨_, sw_lc hX.sc hX.kind, fun q => ?_⟩
      have h4 : (!swB _ scope vp xp x || decide (List.lookup x _ = some NameKind.local)) = true := h4
      rw [q] at h4
      rw [hX.sc]
      exact of_decide_eq_true h4
    | DictComp a a2 b scope vp =>
      refine comp rfl ⟨_, sw_dc hX.sc hX.kind, fun q => ?_⟩
      have h4 : (!swB _ scope vp xp x || decide (List.lookup x _ = some NameKind.local)) = true := h4
      rw [q] at h4
      rw [hX.sc]
      exact of_decide_eq_true h4
    | SetComp a b scope vp => cases h4
    | _ => exact plain (plain_swap rfl)
  | .unp is c, s, e, hX, hp, h => by
    unfold chkS at h
    split at h <;> first | contradiction | (rename_i hz0; cases hz0)
    simp only [Bool.and_eq_true] at h
    obtain ⟨⟨⟨⟨h1, h2⟩, h3⟩, h4⟩, h5⟩ := h
    exact s_unp (ps_asg (PE.frz (sndE c hX h2).1) (snd_T hX (ct := .tp is) h1) (sole (plain_swap h4)) (sw_tup h3) rfl) (disN_mem h5)
  | .par is es, s, e, hX, hp, h => by
    unfold chkS at h
    split at h <;> first | contradiction | (rename_i hz0; cases hz0)
    simp only [Bool.and_eq_true] at h
    exact snd_par hX h.1.1 h.1.2 h.2
  | .aug i p c, s, e, hX, hp, h => by
    unfold chkS at h
    split at h <;> first | contradiction | (rename_i hz0; cases hz0)
    simp only [Bool.and_eq_true, decide_eq_true_eq] at h
    obtain ⟨⟨⟨h1, h2⟩, h3⟩, h4⟩ := h
    obtain ⟨n1, n2, n3⟩ := nm_vis hX h2
    cases p <;> first | contradiction | skip
    · cases h1
      exact s_aug (fun d e r q => aug_add q) hX.nd n1 n2 (sndE c hX h4).1 ip_add n3 h3
    · cases h1
      exact s_aug (fun d e r q => aug_sub q) hX.nd n1 n2 (sndE c hX h4).1 ip_sub n3 h3
  | .expr c, s, e, hX, hp, h => by
    unfold chkS at h
    split at h <;> first | contradiction | (rename_i hz0; cases hz0)
    simp only [Bool.and_eq_true] at h
    exact s_expr (sndE c hX h.1).1 (plain_swap h.2)
  | .mutS m i es, s, e, hX, hp, h => by
    unfold chkS at h
    split at h <;> first | contradiction | (rename_i hz0; cases hz0)
    · simp only [Bool.and_eq_true] at h
      exact s_mut (sndE (.mut .append i es) hX h.1).1 (plain_swap h.2)
    · simp only [Bool.and_eq_true] at h
      obtain ⟨n1, n2, n3⟩ := nm_vis hX h.1
      show PS X _ (tS X.K X.w kp (evMutS .extend _ (evalEs T C (.cons _ .nil))))
      rw [es1]
      exact s_extend hX.nd n1 n2 (sndE _ hX h.2).1 n3
    · simp only [Bool.and_eq_true] at h
      obtain ⟨⟨⟨⟨h1, h2⟩, h3⟩, h4⟩, h5⟩ := h
      obtain ⟨k, hr, _⟩ := hX.room
      show PS X _ (tS X.K X.w kp (evMutS .set _ (evalEs T C (.cons _ (.cons _ .nil)))))
      rw [es2]
      exact s_set hr (hX.vis h1) (sndE _ hX h3).1 (sndE _ hX h4).1 (plain_asg h2) (sole (plain_swap h5)) rfl rfl
    · simp only [Bool.and_eq_true, decide_eq_true_eq] at h
      obtain ⟨⟨⟨h1, h2⟩, h3⟩, h4⟩ := h
      subst h4
      obtain ⟨k, hr, _⟩ := hX.room
      show PS X _ (tS X.K X.w kp (evMutS .addI _ (evalEs T C (.cons _ (.cons (.cst (.int _)) .nil)))))
      rw [es1c]
      exact s_addI hr (hX.vis h1) (sndE _ hX h3).1 (plain_aug h2)
  | .ret c, s, e, hX, hp, h => by
    unfold chkS at h
    split at h <;> first | contradiction | (rename_i hz0; cases hz0)
    · exact s_ret (sndE c hX h).1
    · exact s_retN
  | .ifs c a b, s, e, hX, hp, h => by
    unfold chkS at h
    split at h <;> first | contradiction | (rename_i hz0; cases hz0)
    simp only [Bool.and_eq_true] at h
    exact s_if (sndE c hX h.1.1).2.1 (sndB a hX hp h.1.2) (sndB b hX hp h.2)
  | .whl c b, s, e, hX, hp, h => by
    unfold chkS at h
    split at h <;> first | contradiction | (rename_i hz0; cases hz0)
    simp only [Bool.and_eq_true] at h
    exact s_while WF hp (sndE c hX h.1).2.1 (sndB b hX hp h.2)
  | .for tg it b, s, e, hX, hp, h => by
    unfold chkS at h
    split at h <;> first | contradiction | (rename_i hz0; cases hz0)
    simp only [Bool.and_eq_true] at h
    obtain ⟨⟨⟨⟨h1, h2⟩, h3⟩, h4⟩, h5⟩ := h
    exact s_for hp hX.calm (sndI it hX h1) (snd_T hX h3) (sndB b hX hp h5) (disN_mem h4) fun x => plain_fold h2 x
  | .forS .., s, e, hX, hp, h => by
    unfold chkS at h
    contradiction
  | .pass, s, e, hX, hp, h => by
    unfold chkS at h
    split at h <;> first | contradiction | (rename_i hz0; cases hz0)
    exact s_pass
  | .dead, s, e, hX, hp, h => s_dead
theorem sndB : ∀ (c : Cb) {s : Sk} {l : List Stmt}, Ctx X cx s T C → PassesOwn (model X.prog X.w) X.A X.env X.xe → chkB cx kp c s l = true → PSs X l (tS X.K X.w kp (execB T C c))
  | .nil, s, l, hX, hp, h => by
    unfold chkB at h
    split at h <;> first | contradiction | (rename_i hz0; cases hz0)
    exact s_nil
  | .cons c r, s, l, hX, hp, h => by
    unfold chkB at h
    split at h <;> first | contradiction | (rename_i hz0; cases hz0)
    rw [Bool.and_eq_true] at h
    exact s_cons (sndS c hX hp h.1) (sndB r hX hp h.2)
end
end
end Ky
end

section
set_option autoImplicit false
set_option linter.all false
set_option maxRecDepth 100000
set_option Elab.async false
set_option maxHeartbeats 4000000
/-! A def's body keeps its promise. -/
namespace Ky
open PySem PySem.Spec L2
open PyProof.Rows hiding St
section
variable {K : PySem.W.Frag} {w : World} {F H : Hp} {ss : List Sl} {vs : List V} {N : List Str} {m : Nat} {kp : List Nat}
theorem start_lt {i : Nat} (h : i < vs.length) : (L2.start N vs)[i]? = (vs.map some)[i]? := by
  unfold L2.start
  rw [List.getElem?_append_left (by rw [List.length_map]; exact h)]
theorem emp_lt {i : Nat} (h : i < ss.length) : (ss ++ List.replicate m Sl.emp)[i]? = ss[i]? := List.getElem?_append_left h
theorem emp_ge {i : Nat} {s : Sl} (h : ¬ i < ss.length) (e : (ss ++ List.replicate m Sl.emp)[i]? = some s) : s = .emp := by
  rw [List.getElem?_append_right (by omega), List.getElem?_replicate] at e
  split at e
  · cases e; rfl
  · cases e
theorem Rel.begin (r : Rel K w F ss (vs.map some) H) (hm : vs.length + m = N.length) : Rel K w F (ss ++ List.replicate m .emp) (L2.start N vs) H ∧ ∀ i a, OwnI (ss ++ List.replicate m .emp) (L2.start N vs) i a → OwnI ss (vs.map some) i a := by
  have hl : ss.length = vs.length := by have := r.len; rw [List.length_map] at this; exact this
  have back : ∀ i a, OwnI (ss ++ List.replicate m .emp) (L2.start N vs) i a → OwnI ss (vs.map some) i a := fun i a ⟨d, e, hm, q⟩ => by
    by_cases h : i < ss.length
    · rw [emp_lt h] at e
      rw [start_lt (by omega)] at q
      exact ⟨d, e, hm, q⟩
    · cases emp_ge h e
  refine ⟨⟨r.sub, ?_, fun i s e => ?_, fun i j a h1 h2 => r.apart i j a (back i a h1) (back j a h2)⟩, back⟩
  · unfold L2.start
    rw [List.length_append, List.length_replicate, List.length_append, List.length_map, List.length_replicate]
    omega
  · by_cases h : i < ss.length
    · rw [emp_lt h] at e
      rw [start_lt (by omega)]
      exact r.slot i s e
    · exact .inl (emp_ge h e)
theorem owOk_at : ∀ {ss : List Sl} {j i : Nat} {d : D}, owOk kp j ss = true → ss[i]? = some (.ow d) → j + i ∈ kp
  | [], _, _, _, _, e => by simp at e
  | .ow x :: r, j, 0, d, h, e => by
    have h : (kp.contains j && owOk kp (j + 1) r) = true := h
    rw [Bool.and_eq_true, List.contains_eq_mem, decide_eq_true_eq] at h
    exact h.1
  | .fz x :: r, j, 0, d, h, e => by simp at e
  | .emp :: r, j, 0, d, h, e => by simp at e
  | .ow x :: r, j, i + 1, d, h, e => by
    have h : (kp.contains j && owOk kp (j + 1) r) = true := h
    rw [Bool.and_eq_true] at h
    have := owOk_at h.2 (i := i) (by simpa using e)
    rwa [Nat.add_assoc, Nat.add_comm 1 i] at this
  | .fz x :: r, j, i + 1, d, h, e => by
    have := owOk_at (show owOk kp (j + 1) r = true from h) (i := i) (by simpa using e)
    rwa [Nat.add_assoc, Nat.add_comm 1 i] at this
  | .emp :: r, j, i + 1, d, h, e => by
    have := owOk_at (show owOk kp (j + 1) r = true from h) (i := i) (by simpa using e)
    rwa [Nat.add_assoc, Nat.add_comm 1 i] at this
def Oc.val : Oc → Sl
  | .nx => .fz .none
  | .rt s => s
theorem callFn_some {T : List D} {C : Calls} {fd : Fn} {r : Sl} {ps : List Sl} (h : callFn T C fd ss = some (r, ps)) : ss.length = fd.np ∧ owOk fd.kp 0 ss = true ∧ ∃ o env1, execB T C fd.body (ss ++ List.replicate (fd.ns - fd.np) .emp) = some (o, env1) ∧ r = o.val ∧ ps = env1.take fd.np := by
  unfold callFn at h
  split at h
  · rename_i c
    obtain ⟨⟨o, env1⟩, e, z⟩ := Option.map_eq_some_iff.mp h
    refine ⟨c.1, c.2, o, env1, e, ?_, ?_⟩
    · cases o <;> (cases z; rfl)
    · cases z; rfl
  · cases h
theorem body_ok {T : List D} {C : Calls} {fd : Fn} {np : Nat} {Q : VK} {E : XK} (hns : N.length = fd.ns) (hnp : fd.np = np) (hle : np ≤ N.length) (h : spF K w (callFn T C fd) np vs H Q E) :
    tS K w fd.kp (execB T C fd.body) { nx := fun _ H' => Q .non H', rt := Q } (L2.start N vs) H := by
  obtain ⟨F, ss, r, ps, hl, rl, hc, k⟩ := h
  obtain ⟨h1, h2, o, env1, he, hr, hps⟩ := callFn_some hc
  obtain ⟨rb, back⟩ := rl.begin (N := N) (m := fd.ns - fd.np) (by rw [hl, hns, hnp]; omega)
  have lenS : ss.length = vs.length := by have := rl.len; rw [List.length_map] at this; exact this
  have kept : ∀ {σ' : L2.St} {F' H' : Hp}, Stq K w F (ss ++ List.replicate (fd.ns - fd.np) .emp) (L2.start N vs) H env1 σ' F' H' → Kept fd.kp (L2.start N vs) σ' → ∀ (i : Nat) (d : D) (s' : Sl), ss[i]? = some (Sl.ow d) → isMut d = true → (ps[i]? : Option Sl) = some s' → s' ≠ .emp → ∃ v', vs[i]? = some v' ∧ Rs K w F' H' v' s' := fun {σ' F' H'} st kq i d s' ei hm ep ne => by
    have hik := owOk_at h2 ei
    rw [Nat.zero_add] at hik
    have hi : i < vs.length := by rw [← lenS]; exact (List.getElem?_eq_some_iff.mp ei).1
    have q := kq i hik
    rw [start_lt hi, List.getElem?_map, List.getElem?_eq_getElem hi] at q
    have e2 : env1[i]? = some s' := by
      rw [hps, List.getElem?_take] at ep
      split at ep
      · exact ep
      · cases ep
    rcases st.rel.slot i s' e2 with z | ⟨v, z1, z2⟩
    · exact absurd z ne
    · rw [q] at z1
      cases z1
      exact ⟨vs[i], List.getElem?_eq_getElem hi, z2⟩
  have mvs : ∀ {σ' : L2.St} {F' H' : Hp}, Stq K w F (ss ++ List.replicate (fd.ns - fd.np) .emp) (L2.start N vs) H env1 σ' F' H' → Mv F H (Own ss (vs.map some)) F' H' := fun {σ' F' H'} st =>
    ⟨st.mv.ff, fun b o e n => st.mv.fr b o e fun ⟨i, z⟩ => n ⟨i, back i b z⟩, fun b o e n => st.mv.nw b o e fun ⟨i, z⟩ => n ⟨i, back i b z⟩, st.mv.dm⟩
  refine ⟨F, _, o, env1, rb, he, ?_⟩
  cases o with
  | nx =>
    intro σ' F' H' st kq
    refine k .non F' H' (mvs st) st.rel.sub ?_ (fun d a e => ?_) (kept st kq)
    · rw [hr]
      exact (show Rv K w F' .non .none from .none)
    · rw [hr] at e
      cases e
  | rt s =>
    intro v σ' F' H' st kq hv nw
    refine k v F' H' (mvs st) st.rel.sub ?_ (fun d a e m ev => ?_) (kept st kq)
    · rw [hr]; exact hv
    · rw [hr] at e
      exact (nw d a e m ev).1
end
end Ky
end

section
set_option autoImplicit false
set_option linter.all false
set_option maxRecDepth 100000
set_option Elab.async false
set_option maxHeartbeats 4000000
/-! All defs of a module keep their promises, to any depth of calls. -/
namespace Ky
open PySem PySem.Spec L2
open PyProof.Rows hiding St
def locB (sc : Scope) (x : Str) : Bool := decide (sc.names.lookup x = some .local) || decide (sc.names.lookup x = some .cell)
/-- the checker's word on one def -/
def chkF (fns cons N ps : List Str) (cd : Fn) (st : Stmt) : Bool :=
  decide (N.length = cd.ns) && decide (cd.np = ps.length) && chkB ⟨N, fns, cons⟩ cd.kp cd.body ⟨defScope st, locB (defScope st)⟩ (defBody st)
def scopeOk (N ps : List Str) (sc : Scope) : Bool :=
  decide (sc.kind = .function) && decide (sc.isCoroutine = false) && decide (sc.isGenerator = false) && decide N.Nodup && decide (N.take ps.length = ps) && (ps.all fun x => locB sc x) && (sc.names.all fun y => decide (y.2 ≠ .free))
theorem scope_of {N ps : List Str} {sc : Scope} (h : scopeOk N ps sc = true) : FnScope N ps sc := by
  unfold scopeOk at h
  simp only [Bool.and_eq_true, decide_eq_true_eq, List.all_eq_true, locB, Bool.or_eq_true] at h
  obtain ⟨⟨⟨⟨⟨⟨h1, h2⟩, h3⟩, h4⟩, h5⟩, h6⟩, h7⟩ := h
  exact ⟨h1, h2, h3, h4, h5, h6, h7⟩
structure ModOk (w : World) (K : PySem.W.Frag) (mg : Str → Option Value) (fns cons : List Str) (T : List D) (PF : List Fn) : Prop where
  blt : ∀ x ∈ bltNames, mg x = none
  con : ∀ (i : Nat) (x : Str) (d : D), cons[i]? = some x → T[i]? = some d → ∃ u v, mg x = some u ∧ RelV v u ∧ ∀ F, Rv K w F v d
  df : ∀ (i : Nat) (x : Str), fns[i]? = some x → ∃ (f : Addr) (fd : FuncData) (st : Stmt) (N ps : List Str) (cd : Fn), PF[i]? = some cd ∧ mg x = some (.ref f) ∧ Fun K x x st f fd ∧ Binds K fd ps [] ∧ FnScope N ps (defScope st) ∧ chkF fns cons N ps cd st = true
section
variable {P : Program} {w : World} {K : PySem.W.Frag} {mg : Str → Option Value} {base : Heap} {fns cons : List Str} {T : List D} {PF : List Fn}
theorem run_one {n i : Nat} {cd : Fn} {ss : List Sl} (h : PF[i]? = some cd) : run T PF (n + 1) i ss = callFn T (run T PF n) cd ss := by
  show (PF[i]?).bind _ = _
  rw [h]; rfl
theorem fn_step {n : Nat} (M : ModOk w K mg fns cons T PF)
    (ih : ∀ (i : Nat) (x : Str), fns[i]? = some x → ∃ (f : Addr) (fd : FuncData) (ps : List Str) (np : Nat), mg x = some (.ref f) ∧ PySem.W.keepIn K (.ref f) = true ∧ Binds K fd ps [] ∧ FnOk P w K mg base CX0 n f fd ps (spF K w (run T PF n i) np) ∧ ∀ ss r, run T PF n i ss = some r → ss.length = np)
    {i : Nat} {x : Str} {f : Addr} {fd : FuncData} {st : Stmt} {N ps : List Str} {cd : Fn} (h1 : PF[i]? = some cd) (h3 : Fun K x x st f fd) (h5 : FnScope N ps (defScope st)) (h6 : chkF fns cons N ps cd st = true) :
    FnOk P w K mg base CX0 (n + 1) f fd ps (spF K w (run T PF (n + 1) i) ps.length) := by
  unfold chkF at h6
  simp only [Bool.and_eq_true, decide_eq_true_eq] at h6
  obtain ⟨⟨hns, hnp⟩, hc⟩ := h6
  have e : run T PF (n + 1) i = callFn T (run T PF n) cd := funext fun ss => run_one h1
  rw [e]
  refine h3.ok h5 (fun vs H Q E h => h.choose_spec.choose_spec.choose_spec.choose_spec.1) (fun cdv A outer s H vs Q E hr h => ?_)
  have hX : Ctx (cxOf CX0 P w K mg base N x (defScope st) f cdv A outer s H E).nox ⟨N, fns, cons⟩ ⟨defScope st, locB (defScope st)⟩ T (run T PF n) := {
    hN := rfl
    nd := h5.nd
    calm := rfl
    sc := rfl
    kind := h5.kind
    room := ⟨n, hr, ih⟩
    blt := M.blt
    con := M.con
    st := fun y hy => by
      have hy : locB (defScope st) y = true := hy
      unfold locB at hy
      simp only [Bool.or_eq_true, decide_eq_true_eq] at hy
      exact ⟨hy, .inl rfl⟩ }
  have hle : ps.length ≤ N.length := by have := congrArg List.length h5.pre; rw [List.length_take] at this; omega
  exact ⟨_, sndB cd.body hX PassesOwn.never hc, body_ok hns hnp hle h⟩
theorem fn_all (M : ModOk w K mg fns cons T PF) : ∀ (n i : Nat) (x : Str), fns[i]? = some x → ∃ (f : Addr) (fd : FuncData) (ps : List Str) (np : Nat), mg x = some (.ref f) ∧ PySem.W.keepIn K (.ref f) = true ∧ Binds K fd ps [] ∧ FnOk P w K mg base CX0 n f fd ps (spF K w (run T PF n i) np) ∧ ∀ ss r, run T PF n i ss = some r → ss.length = np
  | 0, i, x, hx => by
    obtain ⟨f, fd, st, N, ps, cd, h1, h2, h3, h4, h5, h6⟩ := M.df i x hx
    refine ⟨f, fd, ps, ps.length, h2, h3.kp, h4, ⟨fun vs H Q E h => h.choose_spec.choose_spec.choose_spec.choose_spec.1, fun A outer s H args us vs Q E _ _ _ _ h => ?_⟩, fun ss r q => ?_⟩
    · obtain ⟨F, ss, r, ps, _, _, q, _⟩ := h
      cases q
    · cases q
  | n + 1, i, x, hx => by
    obtain ⟨f, fd, st, N, ps, cd, h1, h2, h3, h4, h5, h6⟩ := M.df i x hx
    refine ⟨f, fd, ps, ps.length, h2, h3.kp, h4, fn_step M (fn_all M n) h1 h3 h5 h6, fun ss r q => ?_⟩
    rw [run_one h1] at q
    unfold chkF at h6
    simp only [Bool.and_eq_true, decide_eq_true_eq] at h6
    obtain ⟨r, ps'⟩ := r
    rw [← h6.1.2]
    exact (callFn_some q).1
/-- the law's def, called with its script -/
theorem sp_law {R : List Sl → Option (Sl × List Sl)} {H : Hp} {a : Addr} {ns : List Int} {E : XK} {ps : List Sl} (hR : R [.fz (.list (ns.map .int))] = some (.fz (.bool true), ps)) (hS : SqL K H a (ns.map V.int)) : spF K w R 1 [.ref a] H (fun v _ => v = .bl true) E := by
  have dpa : ∀ l : List Int, DpAll K H (l.map V.int) (l.map PyData.int) := fun l => by
    induction l with
    | nil => exact .nil
    | cons x r ih => exact .cons (.int x) ih
  refine ⟨H, [.fz (.list (ns.map .int))], .fz (.bool true), ps, rfl, ⟨fun _ _ e => e, rfl, fun i s e => ?_, fun i j a ⟨d, e, _⟩ => ?_⟩, hR, fun v F' H' _ _ hv _ _ => Rs.isBool hv rfl⟩
  · cases i with
    | zero =>
      cases e
      exact .inr ⟨.ref a, rfl, .dat (.lst hS (dpa ns))⟩
    | succ i => simp at e
  · cases i with
    | zero => cases e
    | succ i => simp at e
end
end Ky
end

section
set_option autoImplicit false
set_option linter.all false
set_option maxRecDepth 100000
set_option Elab.async false
set_option maxHeartbeats 4000000
/-! What the top has written: constants, defs. -/
namespace Ky
open PySem PySem.Spec L2
open PyProof.Rows hiding St
/-! constants -/
mutual
def kDat (K : PySem.W.Frag) : D → Value → Bool
  | .none, u => match u with
    | .none => true
    | _ => false
  | .bool b, u => match u with
    | .bool c => b == c
    | _ => false
  | .int i, u => match u with
    | .int j _ => decide (i = j)
    | _ => false
  | .str x, u => match u with
    | .str y _ => decide (x = y)
    | _ => false
  | .tuple ds, u => match u with
    | .ref a => match K.lookup a with
      | some o => (match o.cls with | .type t => t == "tuple" | _ => false) && (match o.data with | .seq its _ => kAll K ds its.toList | _ => false)
      | none => false
    | _ => false
  | .list _, _ => false
  | .dict _, _ => false
def kAll (K : PySem.W.Frag) : List D → List Value → Bool
  | [], us => match us with
    | [] => true
    | _ => false
  | d :: ds, us => match us with
    | [] => false
    | u :: us => kDat K d u && kAll K ds us
end
mutual
def small16 : D → Bool
  | .tuple ds => decide (ds.length ≤ 1000) && small16s ds
  | _ => true
def small16s : List D → Bool
  | [] => true
  | d :: ds => small16 d && small16s ds
end
section
variable {K : PySem.W.Frag} {w : World} {F : Hp} {mg : Str → Option Value} {fns cons : List Str} {T : List D} {PF : List Fn}
theorem kAll_len : ∀ {ds : List D} {us : List Value}, kAll K ds us = true → us.length = ds.length
  | [], [], _ => rfl
  | [], _ :: _, h => by simp [kAll] at h
  | _ :: _, [], h => by simp [kAll] at h
  | d :: ds, u :: us, h => by
    simp only [kAll, Bool.and_eq_true] at h
    simp [kAll_len h.2]
mutual
theorem kDat_dp : ∀ (d : D) (u : Value), kDat K d u = true → small16 d = true → ∃ v, RelV v u ∧ Dp K F v d
  | .none, u, h, _ => by
    unfold kDat at h
    split at h
    · exact ⟨.non, rfl, .non⟩
    · cases h
  | .bool b, u, h, _ => by
    unfold kDat at h
    split at h
    · have := eq_of_beq h
      subst this
      exact ⟨.bl b, rfl, .bl b⟩
    · cases h
  | .int i, u, h, _ => by
    unfold kDat at h
    split at h
    · have := of_decide_eq_true h
      subst this
      exact ⟨.int i, ⟨_, rfl⟩, .int i⟩
    · cases h
  | .str x, u, h, _ => by
    unfold kDat at h
    split at h
    · have := of_decide_eq_true h
      subst this
      exact ⟨.str x, ⟨_, rfl⟩, .str x⟩
    · cases h
  | .tuple ds, u, h, hs => by
    unfold kDat at h
    split at h
    · rename_i a
      split at h
      · rename_i o ho
        rw [Bool.and_eq_true] at h
        obtain ⟨h1, h2⟩ := h
        split at h1
        · rename_i t ht
          have := eq_of_beq h1
          subst this
          split at h2
          · rename_i its n hd
            simp only [small16, Bool.and_eq_true, decide_eq_true_eq] at hs
            obtain ⟨vs, rv, dp⟩ := kAll_dp ds its.toList h2 hs.2
            have hl := kAll_len h2
            refine ⟨.ref a, rfl, .tup (xs := vs) (.inr ⟨o, its, n, ho, ht, hd, ?_, rv⟩) dp⟩
            rw [← Array.length_toList, hl]
            exact Nat.le_trans hs.1 (by decide)
          · cases h2
        · cases h1
      · cases h
    · cases h
  | .list _, u, h, _ => by
    unfold kDat at h
    cases h
  | .dict _, u, h, _ => by
    unfold kDat at h
    cases h
theorem kAll_dp : ∀ (ds : List D) (us : List Value), kAll K ds us = true → small16s ds = true → ∃ vs, Vals vs us ∧ DpAll K F vs ds
  | [], [], _, _ => ⟨[], .nil, .nil⟩
  | [], _ :: _, h, _ => by simp [kAll] at h
  | _ :: _, [], h, _ => by simp [kAll] at h
  | d :: ds, u :: us, h, hs => by
    simp only [kAll, Bool.and_eq_true] at h
    simp only [small16s, Bool.and_eq_true] at hs
    obtain ⟨v, r, p⟩ := kDat_dp d u h.1 hs.1
    obtain ⟨vs, rs, ps⟩ := kAll_dp ds us h.2 hs.2
    exact ⟨v :: vs, .cons r rs, .cons p ps⟩
end
end
end Ky
end

section
set_option autoImplicit false
set_option linter.all false
set_option maxRecDepth 100000
set_option Elab.async false
set_option maxHeartbeats 4000000
/-! What the top has written, put together. -/
namespace Ky
open PySem PySem.Spec L2
open PyProof.Rows hiding St
section
variable {w : World} {K : PySem.W.Frag} {mg : Str → Option Value} {fns cons : List Str} {T : List D} {PF : List Fn} {h : Heap}
def DefOk (K : PySem.W.Frag) (mg : Str → Option Value) (fns cons : List Str) (x : Str) (cd : Fn) : Prop :=
  ∃ (f : Addr) (fd : FuncData) (st : Stmt) (N ps : List Str), mg x = some (.ref f) ∧ Fun K x x st f fd ∧ Binds K fd ps [] ∧ FnScope N ps (defScope st) ∧ chkF fns cons N ps cd st = true
theorem def_mk (X : K.In h) (G : h.Ns mainGlobals mg) {x : Str} {st : Stmt} {N ps : List Str} {cd : Fn} (S : FnScope N ps (defScope st)) (hc : chkF fns cons N ps cd st = true)
    (hb : ∀ (kV doc pm : Value) (an : Option Addr) (cdv ct : Value) (us : List Value), us.length = ps.length → bindArgs (PySem.W.fnOf x x (defArgs st) (defBody st) (defScope st) .none kV doc pm an cdv ct) ⟨us, []⟩ = pure (ps.zip us))
    {f : Addr} {oc : Value} {od an : Option Addr} {osl : Array (Option Value)} {kV doc pm cdv ct : Value}
    (a : PySem.W.nsIn K mainGlobals x = some (some (.ref f))) (l : K.lookup f = some ⟨oc, od, .func (PySem.W.fnOf x x (defArgs st) (defBody st) (defScope st) .none kV doc pm an cdv ct), osl⟩) (c : PySem.W.codeIn K cdv x = true) (k : PySem.W.keepIn K (.ref f) = true) : DefOk K mg fns cons x cd :=
  ⟨f, _, st, N, ps, PySem.W.mg_of X G a, fun_mk l c k, (fun_mk l c k).binds hb, S, hc⟩
def DefsOk (K : PySem.W.Frag) (mg : Str → Option Value) (fns cons : List Str) : List Str → List Fn → Prop
  | x :: xs, cd :: cds => DefOk K mg fns cons x cd ∧ DefsOk K mg fns cons xs cds
  | [], [] => True
  | _, _ => False
theorem defs_at : ∀ {xs : List Str} {cds : List Fn} {i : Nat} {x : Str}, DefsOk K mg fns cons xs cds → xs[i]? = some x → ∃ cd, cds[i]? = some cd ∧ DefOk K mg fns cons x cd
  | [], _, _, _, _, e => by simp at e
  | _ :: _, [], _, _, h, _ => h.elim
  | y :: xs, cd :: cds, 0, x, h, e => by
    cases e
    exact ⟨cd, rfl, h.1⟩
  | y :: xs, cd :: cds, i + 1, x, h, e => by
    obtain ⟨c, h1, h2⟩ := defs_at (i := i) h.2 (by simpa using e)
    exact ⟨c, by simpa using h1, h2⟩
def ConOk (K : PySem.W.Frag) (mg : Str → Option Value) (x : Str) (d : D) : Prop := ∃ u, mg x = some u ∧ kDat K d u = true ∧ small16 d = true
theorem con_mk (X : K.In h) (G : h.Ns mainGlobals mg) {x : Str} {d : D} {u : Value} (s : small16 d = true) (a : PySem.W.nsIn K mainGlobals x = some (some u)) (k : kDat K d u = true) : ConOk K mg x d := ⟨u, PySem.W.mg_of X G a, k, s⟩
def ConsOk (K : PySem.W.Frag) (mg : Str → Option Value) : List Str → List D → Prop
  | x :: xs, d :: ds => ConOk K mg x d ∧ ConsOk K mg xs ds
  | _, _ => True
theorem cons_at : ∀ {xs : List Str} {ds : List D} {i : Nat} {x : Str} {d : D}, ConsOk K mg xs ds → xs[i]? = some x → ds[i]? = some d → ConOk K mg x d
  | [], _, _, _, _, _, e, _ => by simp at e
  | _ :: _, [], _, _, _, _, _, e => by simp at e
  | y :: xs, d :: ds, 0, x, _, h, e, e2 => by
    cases e
    cases e2
    exact h.1
  | y :: xs, d :: ds, i + 1, x, _, h, e, e2 => cons_at (i := i) h.2 (by simpa using e) (by simpa using e2)
theorem mod_mk (X : K.In h) (G : h.Ns mainGlobals mg) (hd : DefsOk K mg fns cons fns PF) (hc : ConsOk K mg cons T) (hb : (bltNames.all fun x => decide (PySem.W.nsIn K mainGlobals x = some none)) = true) : ModOk w K mg fns cons T PF where
  blt := fun x hx => PySem.W.mg_none_of X G (of_decide_eq_true (List.all_eq_true.mp hb x hx))
  con := fun i x d e1 e2 => by
    obtain ⟨u, h1, h2, h3⟩ := cons_at hc e1 e2
    obtain ⟨v, r, _⟩ := kDat_dp (F := fun _ => none) d u h2 h3
    refine ⟨u, v, h1, r, fun F => ?_⟩
    obtain ⟨v', r', p⟩ := kDat_dp (F := F) d u h2 h3
    rw [RelV.inj r r']
    exact .dat p
  df := fun i x e => by
    obtain ⟨cd, h1, f, fd, st, N, ps, h2, h3, h4, h5, h6⟩ := defs_at hd e
    exact ⟨f, fd, st, N, ps, cd, h1, h2, h3, h4, h5, h6⟩
/-- the law's def for walk_of -/
theorem law_mk {P : Program} {n il : Nat} {x p : Str} {fa : Addr} {st : Stmt} {N : List Str} {cd : Fn} (X : K.In h) (G : h.Ns mainGlobals mg) (M : ModOk w K mg fns cons T PF) (hp : PF[il]? = some cd) (S : FnScope N [p] (defScope st)) (hc : chkF fns cons N [p] cd st = true)
    (hb : ∀ (kV doc pm : Value) (an : Option Addr) (cdv ct : Value) (us : List Value), us.length = [p].length → bindArgs (PySem.W.fnOf x x (defArgs st) (defBody st) (defScope st) .none kV doc pm an cdv ct) ⟨us, []⟩ = pure ([p].zip us))
    {f : Addr} {oc : Value} {od an : Option Addr} {osl : Array (Option Value)} {kV doc pm cdv ct : Value}
    (a : PySem.W.nsIn K mainGlobals x = some (some (.ref f))) (l : K.lookup f = some ⟨oc, od, .func (PySem.W.fnOf x x (defArgs st) (defBody st) (defScope st) .none kV doc pm an cdv ct), osl⟩) (c : PySem.W.codeIn K cdv x = true) (k : PySem.W.keepIn K (.ref f) = true) (hfa : mg x = some (.ref fa)) :
    ∃ fd : FuncData, (∀ (s : Shared) (u : Value), BindsTo s fd ⟨[u], []⟩ [(p, u)]) ∧ ∀ base : Heap, K.In base → base.Ns mainGlobals mg → FnOk P w K mg base CX0 (n + 1) fa fd [p] (spF K w (run T PF (n + 1) il) 1) := by
  have e := hfa.symm.trans (PySem.W.mg_of X G a)
  cases e
  exact ⟨_, fun s u => .of_eq (hb kV doc pm an cdv ct [u] rfl), fun base _ _ => fn_step M (fn_all M n) hp (fun_mk l c k) S hc⟩
end
end Ky
end

section
set_option autoImplicit false
set_option linter.all false
set_option maxRecDepth 100000
set_option Elab.async false
/-! Loops of the core, as maps and folds. -/
namespace Ky
open PySem
theorem lcLoop_filter {step : D → En → Option (Option D × En)} {p : D → Bool} {g : D → D} {env : En} : ∀ {xs : List D}, (∀ x ∈ xs, step x env = some (if p x then some (g x) else none, env)) → lcLoop step xs env = some ((xs.filter p).map g, env)
  | [], _ => rfl
  | x :: xs, h => by
    have h1 := h x (List.mem_cons_self ..)
    have h2 := lcLoop_filter (xs := xs) fun y hy => h y (List.mem_cons_of_mem _ hy)
    show (step x env).bind _ = _
    rw [h1]
    show (lcLoop step xs env).map _ = _
    rw [h2]
    cases hp : p x with
    | true => simp [hp]
    | false => simp [hp]
theorem lcLoop_map {step : D → En → Option (Option D × En)} {g : D → D} {env : En} {xs : List D} (h : ∀ x ∈ xs, step x env = some (some (g x), env)) : lcLoop step xs env = some (xs.map g, env) := by
  have := lcLoop_filter (step := step) (p := fun _ => true) (g := g) (env := env) (xs := xs) (by simpa using h)
  rw [List.filter_eq_self.mpr (fun _ _ => rfl)] at this
  exact this
theorem lcLoop2_flat {step : D → En → Option (List D × En)} {g : D → List D} {env : En} : ∀ {xs : List D}, (∀ x ∈ xs, step x env = some (g x, env)) → lcLoop2 step xs env = some (xs.flatMap g, env)
  | [], _ => rfl
  | x :: xs, h => by
    have h1 := h x (List.mem_cons_self ..)
    have h2 := lcLoop2_flat (xs := xs) fun y hy => h y (List.mem_cons_of_mem _ hy)
    show (step x env).bind _ = _
    rw [h1]
    show (lcLoop2 step xs env).map _ = _
    rw [h2, List.flatMap_cons]
    rfl
/-- a for loop as a fold: S tells the slots by what has been gathered -/
theorem forLoop_fold {α : Type} {body : En → Option (Oc × En)} {tg : Ct} {S : α → En} {f : α → D → α} : ∀ {xs : List D} {a : α}, (∀ x ∈ xs, ∀ a, (bindT (S a) tg x).bind body = some (.nx, S (f a x))) → forLoop body tg xs (S a) = some (.nx, S (xs.foldl f a))
  | [], _, _ => rfl
  | x :: xs, a, h => by
    have h1 := h x (List.mem_cons_self ..) a
    have h2 := forLoop_fold (S := S) (f := f) (xs := xs) (a := f a x) fun y hy => h y (List.mem_cons_of_mem _ hy)
    show (bindT (S a) tg x).bind (fun env => (body env).bind fun p => match p.1 with
      | .nx => forLoop body tg xs p.2
      | .rt s => some (.rt s, p.2)) = _
    cases hb : bindT (S a) tg x with
    | none => rw [hb] at h1; cases h1
    | some e =>
      rw [hb] at h1
      have h1 : body e = some (.nx, S (f a x)) := h1
      show (body e).bind _ = _
      rw [h1]
      exact h2
/-- .. where the slots that are left may differ: R relates -/
theorem forLoop_rel {body : En → Option (Oc × En)} {tg : Ct} {I : List D → En → Prop} : ∀ {xs ys : List D} {env : En}, I xs env → (∀ (x : D) (xs : List D) (env : En), I (x :: xs) env → ∃ env', (bindT env tg x).bind body = some (.nx, env') ∧ I xs env') → ∃ env', forLoop body tg xs env = some (.nx, env') ∧ I [] env'
  | [], _, env, h, _ => ⟨env, rfl, h⟩
  | x :: xs, ys, env, h, st => by
    obtain ⟨env', h1, h2⟩ := st x xs env h
    obtain ⟨e2, h3, h4⟩ := forLoop_rel (ys := ys) h2 st
    refine ⟨e2, ?_, h4⟩
    show (bindT env tg x).bind (fun env => (body env).bind fun p => match p.1 with
      | .nx => forLoop body tg xs p.2
      | .rt s => some (.rt s, p.2)) = _
    cases hb : bindT env tg x with
    | none => rw [hb] at h1; cases h1
    | some e =>
      rw [hb] at h1
      have h1 : body e = some (.nx, env') := h1
      show (body e).bind _ = _
      rw [h1]
      exact h3
end Ky
end

section
set_option autoImplicit false
set_option linter.all false
set_option maxRecDepth 100000
set_option Elab.async false
/-! The evaluator, construct by construct, for simp: continuations are not entered. -/
namespace Ky
open PySem
/-- what hides a continuation from simp: a later argument leans on it -/
structure Lk {α β : Type} (f : α → β) : Type where
def bnd {α β : Type} (a : Option α) (f : α → Option β) (_ : Lk f) : Option β := a.bind f
def mp {α β : Type} (a : Option α) (f : α → β) (_ : Lk f) : Option β := a.map f
theorem bnd_some {α β : Type} (a : α) (f : α → Option β) (k : Lk f) : bnd (some a) f k = f a := (rfl)
theorem mp_some {α β : Type} (a : α) (f : α → β) (k : Lk f) : mp (some a) f k = some (f a) := (rfl)
theorem bnd_ite {α β : Type} (p : Prop) [Decidable p] (x y : Option α) (f : α → Option β) (k : Lk f) : bnd (if p then x else y) f k = if p then bnd x f k else bnd y f k := by split <;> rfl
theorem mp_ite {α β : Type} (p : Prop) [Decidable p] (x y : Option α) (f : α → β) (k : Lk f) : mp (if p then x else y) f k = if p then mp x f k else mp y f k := by split <;> rfl
theorem bnd_none {α β : Type} (f : α → Option β) (k : Lk f) : bnd none f k = none := (rfl)
theorem mp_none {α β : Type} (f : α → β) (k : Lk f) : mp none f k = none := (rfl)
theorem obind_some {α β : Type} (a : α) (f : α → Option β) : (some a).bind f = f a := (rfl)
theorem omap_some {α β : Type} (a : α) (f : α → β) : (some a).map f = some (f a) := (rfl)
section
variable {T : List D} {C : Calls} {env : En}
def lcSt (T : List D) (C : Calls) (tg : Ct) (cs : Ces) (e : Ce) (own : List Nat) (d : D) (env : En) : Option (Option D × En) :=
  (bindT env tg d).bind fun env => (evalCs T C cs env).bind fun c => if c.1 then (evalE T C e c.2).map fun r => (some r.1.dat, wipeE r.2 own) else some (none, wipeE c.2 own)
def lc2St (T : List D) (C : Calls) (tg : Ct) (cs : Ces) (tg1 : Ct) (it1 : Ci) (cs1 : Ces) (e : Ce) (own own1 : List Nat) (d : D) (env : En) : Option (List D × En) :=
  (bindT env tg d).bind fun env => (evalCs T C cs env).bind fun c => if c.1 then
          (evalI T C it1 c.2).bind fun y => (lcLoop (lcSt T C tg1 cs1 e own1) y.1 (wipeE y.2 own1)).map fun r => (r.1, wipeE r.2 own)
        else some ([], wipeE c.2 own)
def dcSt (T : List D) (C : Calls) (tg : Ct) (cs : Ces) (k v : Ce) (own : List Nat) (d : D) (env : En) : Option (Option (D × D) × En) :=
  (bindT env tg d).bind fun env => (evalCs T C cs env).bind fun c => if c.1 then (evalE T C k c.2).bind fun r => if keyable r.1.dat then (evalE T C v r.2).bind fun q => if noDict q.1.dat then some (some (r.1.dat, q.1.dat), wipeE q.2 own) else none else none else some (none, wipeE c.2 own)
/-- reading a slot -/
def rdS : Option Sl → Nat → En → Option (Sl × En)
  | some (.fz d), _, env => some (.fz d, env)
  | some (.ow d), i, env => some (.fz d, env.set i (.fz d))
  | _, _, _ => none
@[simp] theorem rdS_fz (d : D) (i : Nat) : rdS (some (.fz d)) i env = some (.fz d, env) := (rfl)
@[simp] theorem rdS_ow (d : D) (i : Nat) : rdS (some (.ow d)) i env = some (.fz d, env.set i (.fz d)) := (rfl)
def pkS : Option Sl → Option D
  | some (.fz d) => some d
  | some (.ow d) => some d
  | _ => none
@[simp] theorem pkS_fz (d : D) : pkS (some (.fz d)) = some d := (rfl)
@[simp] theorem pkS_ow (d : D) : pkS (some (.ow d)) = some d := (rfl)
theorem ev_peek (i : Nat) : peek env i = pkS env[i]? := by
  unfold peek pkS
  rcases env[i]? with _ | _ | _ | _ <;> rfl
def andK (T : List D) (C : Calls) (b : Ce) (x : Sl × En) : Option (Sl × En) := match x.1.dat with
    | .bool true => evalE T C b x.2
    | .bool false => some (.fz (.bool false), x.2)
    | _ => none
def orK (T : List D) (C : Calls) (b : Ce) (x : Sl × En) : Option (Sl × En) := match x.1.dat with
    | .bool true => some (.fz (.bool true), x.2)
    | .bool false => evalE T C b x.2
    | _ => none
def notK (x : Sl × En) : Option (Sl × En) := match x.1.dat with
    | .bool b => some (.fz (.bool (!b)), x.2)
    | _ => none
def iteK (T : List D) (C : Calls) (a b : Ce) (x : Sl × En) : Option (Sl × En) := match x.1.dat with
    | .bool true => evalE T C a x.2
    | .bool false => evalE T C b x.2
    | _ => none
def chK (T : List D) (C : Calls) (q : P2) (c : Co) (x : Wv) (y : Wv × En) : Option D → Option (Sl × En)
    | some (.bool false) => some (.fz (.bool false), y.2)
    | some (.bool true) => (evalO T C c y.2).bind fun z => (y.1.get z.2).bind fun e => (z.1.get z.2).bind fun g => (f2 q e g).map fun r => (.fz r, z.2)
    | _ => none
theorem ev_cst (d : D) : evalE T C (.cst d) env = some (.fz d, env) := (rfl)
theorem ev_glb (k : Nat) : evalE T C (.glb k) env = mp T[k]? (fun d => (.fz d, env)) ⟨⟩ := (rfl)
theorem ev_rd (i : Nat) : evalE T C (.rd i) env = rdS env[i]? i env := by
  show (match env[i]? with | some (.fz d) => _ | some (.ow d) => _ | _ => none) = _
  unfold rdS
  rcases env[i]? with _ | _ | _ | _ <;> rfl
theorem ev_p1 (p : P1) (a : Co) : evalE T C (.p1 p a) env = bnd (evalO T C a env) (fun x => bnd (x.1.get x.2) (fun d => mp (f1 p d) (fun r => (.mk p.fresh r, x.2)) ⟨⟩) ⟨⟩) ⟨⟩ := (rfl)
theorem ev_p2 (p : P2) (a b : Co) : evalE T C (.p2 p a b) env = bnd (evalO T C a env) (fun x => bnd (pre2 p (x.1.get x.2)) (fun _ => bnd (evalO T C b x.2) (fun y => bnd (x.1.get y.2) (fun d => bnd (y.1.get y.2) (fun e => mp (f2 p d e) (fun r => (.mk p.fresh r, y.2)) ⟨⟩) ⟨⟩) ⟨⟩) ⟨⟩) ⟨⟩) ⟨⟩ := (rfl)
theorem ev_p3 (p : P3) (a b c : Co) : evalE T C (.p3 p a b c) env = bnd (evalO T C a env) (fun x => bnd (pre3 p (x.1.get x.2)) (fun _ => bnd (evalO T C b x.2) (fun y => bnd (evalO T C c y.2) (fun z => bnd (x.1.get z.2) (fun d => bnd (y.1.get z.2) (fun e => bnd (z.1.get z.2) (fun g => mp (f3 p d e g) (fun r => (.mk p.fresh r, z.2)) ⟨⟩) ⟨⟩) ⟨⟩) ⟨⟩) ⟨⟩) ⟨⟩) ⟨⟩) ⟨⟩ := (rfl)
theorem ev_chain (p q : P2) (a b c : Co) : evalE T C (.chain p q a b c) env = bnd (evalO T C a env) (fun x => bnd (evalO T C b x.2) (fun y => bnd (x.1.get y.2) (fun d => bnd (y.1.get y.2) (fun e => chK T C q c x.1 y (f2 p d e)) ⟨⟩) ⟨⟩) ⟨⟩) ⟨⟩ := (rfl)
theorem ev_and (a b : Ce) : evalE T C (.and a b) env = bnd (evalE T C a env) (andK T C b) ⟨⟩ := (rfl)
theorem ev_or (a b : Ce) : evalE T C (.or a b) env = bnd (evalE T C a env) (orK T C b) ⟨⟩ := (rfl)
theorem ev_not (a : Ce) : evalE T C (.not a) env = bnd (evalE T C a env) notK ⟨⟩ := (rfl)
theorem ev_ite (c a b : Ce) : evalE T C (.ite c a b) env = bnd (evalE T C c env) (iteK T C a b) ⟨⟩ := (rfl)
theorem ev_tup (es : Ces) : evalE T C (.tup es) env = bnd (evalEs T C es env) (fun x => mp (mkT x.1) (fun d => (.fz d, x.2)) ⟨⟩) ⟨⟩ := (rfl)
theorem ev_lst (es : Ces) : evalE T C (.lst es) env = bnd (evalEs T C es env) (fun x => mp (mkL x.1) (fun d => (.ow d, x.2)) ⟨⟩) ⟨⟩ := (rfl)
theorem ev_dct (es : Ces) : evalE T C (.dct es) env = bnd (evalEs T C es env) (fun x => mp (pairUp x.1) (fun kvs => (.ow (.dict (dmerge [] kvs)), x.2)) ⟨⟩) ⟨⟩ := (rfl)
theorem ev_call (f : Nat) (as : Cas) : evalE T C (.call f as) env = bnd (evalAs T C as env) (fun x => if nodupN (ownsOf x.1) then bnd (takeAll x.2 x.1) (fun ss => bnd (C f ss) (fun r => mp (putBack x.1 r.2 x.2) (fun env1 => (r.1, env1)) ⟨⟩) ⟨⟩) ⟨⟩ else none) ⟨⟩ := (rfl)
def mutK (m : Mu) (i : Nat) (x : List D × En) : Option Sl → Option (Sl × En)
  | some (.ow d) => (fM m d x.1).map fun r => (.fz r.2, x.2.set i (.ow r.1))
  | _ => none
@[simp] theorem mutK_ow (m : Mu) (i : Nat) (x : List D × En) (d : D) : mutK m i x (some (.ow d)) = mp (fM m d x.1) (fun r => (.fz r.2, x.2.set i (.ow r.1))) ⟨⟩ := (rfl)
theorem ev_mut (m : Mu) (i : Nat) (es : Ces) : evalE T C (.mut m i es) env = bnd (preM m env[i]?) (fun _ => bnd (evalEs T C es env) (fun x => mutK m i x x.2[i]?) ⟨⟩) ⟨⟩ := by
  show ((preM m env[i]?).bind fun _ => (evalEs T C es env).bind fun x => match x.2[i]? with
    | some (Sl.ow d) => (fM m d x.1).map fun r => (Sl.fz r.2, x.2.set i (Sl.ow r.1))
    | _ => none) = _
  congr 1
theorem ev_lc (tg : Ct) (it : Ci) (cs : Ces) (e : Ce) (own : List Nat) : evalE T C (.lc tg it cs e own) env = bnd (evalI T C it env) (fun x => if ownFree x.2 own then bnd (lcLoop (lcSt T C tg cs e own) x.1 (wipeE x.2 own)) (fun r => mp (mkL r.1) (fun d => (.ow d, unwipe r.2 x.2 own)) ⟨⟩) ⟨⟩ else none) ⟨⟩ := (rfl)
theorem ev_lc2 (tg : Ct) (it : Ci) (cs : Ces) (tg1 : Ct) (it1 : Ci) (cs1 : Ces) (e : Ce) (own own1 : List Nat) : evalE T C (.lc2 tg it cs tg1 it1 cs1 e own own1) env = bnd (evalI T C it env) (fun x => if ownFree x.2 own then bnd (lcLoop2 (lc2St T C tg cs tg1 it1 cs1 e own own1) x.1 (wipeE x.2 own)) (fun r => mp (mkL r.1) (fun d => (.ow d, unwipe r.2 x.2 own)) ⟨⟩) ⟨⟩ else none) ⟨⟩ := (rfl)
theorem ev_dc (tg : Ct) (it : Ci) (cs : Ces) (k v : Ce) (own : List Nat) : evalE T C (.dc tg it cs k v own) env = bnd (evalI T C it env) (fun x => if ownFree x.2 own then bnd (dcLoop (dcSt T C tg cs k v own) x.1 (wipeE x.2 own) []) (fun r => if r.1.length < SL then some (.ow (.dict r.1), unwipe r.2 x.2 own) else none) ⟨⟩ else none) ⟨⟩ := (rfl)
theorem ev_lcS (tg : Ct) (i : Nat) (cs : Ces) (e : Ce) (own : List Nat) : evalE T C (.lcS tg i cs e own) env = if ownFree env own && !own.contains i then bnd (bnd (peek env i) itemsOf ⟨⟩) (fun xs => bnd (lcLoopS (lcSt T C tg cs e own) i xs.length (xs.length + 1) 0 (wipeE env own)) (fun r => mp (mkL r.1) (fun d => (.ow d, unwipe r.2 env own)) ⟨⟩) ⟨⟩) ⟨⟩ else none := by
  show (if ownFree env own && !own.contains i then match (peek env i).bind itemsOf with
      | none => none
      | some xs => _ else none) = _
  unfold bnd
  rcases (peek env i).bind itemsOf with _ | _ <;> rfl
theorem ev_oex (e : Ce) : evalO T C (.ex e) env = mp (evalE T C e env) (fun x => (.val x.1.dat, x.2)) ⟨⟩ := (rfl)
theorem ev_opk (i : Nat) : evalO T C (.pk i) env = mp (peek env i) (fun _ => (.at i, env)) ⟨⟩ := (rfl)
theorem ev_snil : evalEs T C .nil env = some ([], env) := (rfl)
theorem ev_scons (e : Ce) (r : Ces) : evalEs T C (.cons e r) env = bnd (evalE T C e env) (fun x => mp (evalEs T C r x.2) (fun y => (x.1.dat :: y.1, y.2)) ⟨⟩) ⟨⟩ := (rfl)
theorem ev_anil : evalAs T C .nil env = some ([], env) := (rfl)
theorem ev_aex (e : Ce) (r : Cas) : evalAs T C (.ex e r) env = bnd (evalE T C e env) (fun x => mp (evalAs T C r x.2) (fun y => (.val x.1.dat :: y.1, y.2)) ⟨⟩) ⟨⟩ := (rfl)
theorem ev_abw (i : Nat) (r : Cas) : evalAs T C (.bw i r) env = bnd (peek env i) (fun _ => mp (evalAs T C r env) (fun y => (.own i :: y.1, y.2)) ⟨⟩) ⟨⟩ := (rfl)
theorem ev_cnil : evalCs T C .nil env = some (true, env) := (rfl)
def csK (T : List D) (C : Calls) (r : Ces) (x : Sl × En) : Option (Bool × En) := match x.1.dat with
    | .bool true => evalCs T C r x.2
    | .bool false => some (false, x.2)
    | _ => none
theorem ev_ccons (e : Ce) (r : Ces) : evalCs T C (.cons e r) env = bnd (evalE T C e env) (csK T C r) ⟨⟩ := (rfl)
theorem ev_iex (e : Ce) : evalI T C (.ex e) env = bnd (evalE T C e env) (fun x => mp (if isStrD x.1.dat then none else itemsOf x.1.dat) (fun xs => (xs, x.2)) ⟨⟩) ⟨⟩ := (rfl)
theorem ev_irng (es : Ces) : evalI T C (.rng es) env = bnd (evalEs T C es env) (fun x => mp (rangeOf x.1) (fun xs => (xs, x.2)) ⟨⟩) ⟨⟩ := (rfl)
theorem ev_izip (es : Ces) : evalI T C (.zip es) env = bnd (evalEs T C es env) (fun x => mp (zipOf x.1) (fun xs => (xs, x.2)) ⟨⟩) ⟨⟩ := (rfl)
theorem ev_ienum (e : Ce) : evalI T C (.enum e) env = bnd (evalE T C e env) (fun x => mp (srcOf x.1.dat) (fun xs => (enumOf xs, x.2)) ⟨⟩) ⟨⟩ := (rfl)
/-! statements -/
theorem ex_asg (i : Nat) (own : Bool) (e : Ce) : execS T C (.asg i own e) env = mp (evalE T C e env) (fun x => (.nx, x.2.set i (if own then x.1 else x.1.thaw))) ⟨⟩ := (rfl)
theorem ex_unp (is : List Nat) (e : Ce) : execS T C (.unp is e) env = bnd (evalE T C e env) (fun x => mp (bindT x.2 (.tp is) x.1.dat) (fun env => (.nx, env)) ⟨⟩) ⟨⟩ := (rfl)
theorem ex_par (is : List (Nat × Bool)) (es : Ces) : execS T C (.par is es) env = bnd (evalSs T C is es env) (fun x => mp (storeS x.2 is x.1) (fun env => (.nx, env)) ⟨⟩) ⟨⟩ := (rfl)
theorem ex_aug (i : Nat) (p : P2) (e : Ce) : execS T C (.aug i p e) env = bnd (peek env i) (fun _ => bnd (evalE T C e env) (fun x => bnd (peek x.2 i) (fun d => mp (augD p d x.1.dat) (fun r => (.nx, x.2.set i (.fz r))) ⟨⟩) ⟨⟩) ⟨⟩) ⟨⟩ := (rfl)
theorem ex_expr (e : Ce) : execS T C (.expr e) env = mp (evalE T C e env) (fun x => (.nx, x.2)) ⟨⟩ := (rfl)
def mutSK (m : Mu) (i : Nat) (x : List D × En) : Option Sl → Option (Oc × En)
  | some (.ow d) => (fM m d x.1).map fun r => (.nx, x.2.set i (.ow r.1))
  | _ => none
@[simp] theorem mutSK_ow (m : Mu) (i : Nat) (x : List D × En) (d : D) : mutSK m i x (some (.ow d)) = mp (fM m d x.1) (fun r => (.nx, x.2.set i (.ow r.1))) ⟨⟩ := (rfl)
theorem ex_mutS (m : Mu) (i : Nat) (es : Ces) : execS T C (.mutS m i es) env = bnd (preM m env[i]?) (fun _ => bnd (evalEs T C es env) (fun x => mutSK m i x x.2[i]?) ⟨⟩) ⟨⟩ := by
  show ((preM m env[i]?).bind fun _ => (evalEs T C es env).bind fun x => match x.2[i]? with
    | some (Sl.ow d) => (fM m d x.1).map fun r => (Oc.nx, x.2.set i (Sl.ow r.1))
    | _ => none) = _
  congr 1
theorem ex_ret (e : Ce) : execS T C (.ret e) env = mp (evalE T C e env) (fun x => (.rt x.1, x.2)) ⟨⟩ := (rfl)
def ifK (T : List D) (C : Calls) (a b : Cb) (x : Sl × En) : Option (Oc × En) := match x.1.dat with
  | .bool true => execB T C a x.2
  | .bool false => execB T C b x.2
  | _ => none
theorem ex_ifs (c : Ce) (a b : Cb) : execS T C (.ifs c a b) env = bnd (evalE T C c env) (ifK T C a b) ⟨⟩ := by
  show (testOf (evalE T C c env)).bind _ = _
  unfold testOf
  rcases evalE T C c env with _ | ⟨v, e⟩
  · rfl
  · show Option.bind (match v.dat with | .bool b => some (b, e) | _ => none) _ = ifK T C a b (v, e)
    unfold ifK
    cases v.dat with
    | bool b => cases b <;> rfl
    | _ => rfl
theorem ex_whl (c : Ce) (b : Cb) : execS T C (.whl c b) env = whlLoop (fun env => testOf (evalE T C c env)) (fun env => execB T C b env) WF env := (rfl)
theorem ex_for (tg : Ct) (it : Ci) (b : Cb) : execS T C (.for tg it b) env = bnd (evalI T C it env) (fun x => forLoop (fun env => execB T C b env) tg x.1 x.2) ⟨⟩ := (rfl)
theorem ex_forS (tg : Ct) (i : Nat) (b : Cb) : execS T C (.forS tg i b) env = bnd (bnd (peek env i) itemsOf ⟨⟩) (fun xs => forLoopS (fun env => execB T C b env) tg i xs.length (xs.length + 1) 0 env) ⟨⟩ := by
  show (match (peek env i).bind itemsOf with
      | none => none
      | some xs => _) = _
  unfold bnd
  rcases (peek env i).bind itemsOf with _ | _ <;> rfl
theorem ex_pass : execS T C .pass env = some (.nx, env) := (rfl)
theorem ex_dead : execS T C .dead env = none := (rfl)
theorem ex_nil : execB T C .nil env = some (.nx, env) := (rfl)
def ocK (T : List D) (C : Calls) (r : Cb) (p : Oc × En) : Option (Oc × En) := match p.1 with
    | .nx => execB T C r p.2
    | .rt s => some (.rt s, p.2)
@[simp] theorem ocK_nx (r : Cb) : ocK T C r (.nx, env) = execB T C r env := (rfl)
@[simp] theorem ocK_rt (r : Cb) (s : Sl) : ocK T C r (.rt s, env) = some (.rt s, env) := (rfl)
theorem ex_cons (s : Cs) (r : Cb) : execB T C (.cons s r) env = bnd (execS T C s env) (ocK T C r) ⟨⟩ := (rfl)
/-! what comes back -/
def retV : Oc → Sl
  | .nx => .fz .none
  | .rt s => s
@[simp] theorem retV_nx : retV .nx = .fz .none := (rfl)
@[simp] theorem retV_rt (s : Sl) : retV (.rt s) = s := (rfl)
theorem ex_fn (fd : Fn) (ss : List Sl) : callFn T C fd ss = if ss.length = fd.np ∧ owOk fd.kp 0 ss = true then mp (execB T C fd.body (ss ++ List.replicate (fd.ns - fd.np) .emp)) (fun p => (retV p.1, p.2.take fd.np)) ⟨⟩ else none := by
  unfold callFn retV
  split
  · show Option.map _ _ = Option.map _ _
    congr 1
  · rfl
/-! truth values -/
@[simp] theorem andK_b (b : Ce) (x : Bool) : andK T C b (.fz (.bool x), env) = if x = true then evalE T C b env else some (.fz (.bool false), env) := by cases x <;> rfl
@[simp] theorem orK_b (b : Ce) (x : Bool) : orK T C b (.fz (.bool x), env) = if x = true then some (.fz (.bool true), env) else evalE T C b env := by cases x <;> rfl
@[simp] theorem notK_b (x : Bool) : notK (.fz (.bool x), env) = some (.fz (.bool (!x)), env) := (rfl)
@[simp] theorem iteK_b (a b : Ce) (x : Bool) : iteK T C a b (.fz (.bool x), env) = if x = true then evalE T C a env else evalE T C b env := by cases x <;> rfl
@[simp] theorem ifK_b (a b : Cb) (x : Bool) : ifK T C a b (.fz (.bool x), env) = if x = true then execB T C a env else execB T C b env := by cases x <;> rfl
@[simp] theorem csK_b (r : Ces) (x : Bool) : csK T C r (.fz (.bool x), env) = if x = true then evalCs T C r env else some (false, env) := by cases x <;> rfl
@[simp] theorem chK_b (q : P2) (c : Co) (x : Wv) (y : Wv × En) (b : Bool) : chK T C q c x y (some (.bool b)) = if b = true then bnd (evalO T C c y.2) (fun z => bnd (y.1.get z.2) (fun e => bnd (z.1.get z.2) (fun g => mp (f2 q e g) (fun r => (.fz r, z.2)) ⟨⟩) ⟨⟩) ⟨⟩) ⟨⟩ else some (.fz (.bool false), y.2) := by cases b <;> rfl
@[simp] theorem sl_ite (p : Prop) [Decidable p] (x y : Bool) : (if p then some (Sl.fz (.bool x), env) else some (Sl.fz (.bool y), env)) = some (Sl.fz (.bool (if p then x else y)), env) := by split <;> rfl
@[simp] theorem cs_ite (p : Prop) [Decidable p] (x y : Bool) : (if p then some (x, env) else some (y, env)) = some (if p then x else y, env) := by split <;> rfl
@[simp] theorem bool_ite_f (p x : Bool) : (if p = true then x else false) = (p && x) := by cases p <;> rfl
@[simp] theorem bool_ite_t (p x : Bool) : (if p = true then true else x) = (p || x) := by cases p <;> rfl
theorem obind_ite {α β : Type} (p : Prop) [Decidable p] (x y : Option α) (f : α → Option β) : (if p then x else y).bind f = if p then x.bind f else y.bind f := by split <;> rfl
theorem omap_ite {α β : Type} (p : Prop) [Decidable p] (x y : Option α) (f : α → β) : (if p then x else y).map f = if p then x.map f else y.map f := by split <;> rfl
end
def notOw : Option Sl → Bool
  | some (.ow _) => false
  | _ => true
theorem notOw_fz (d : D) : notOw (some (.fz d)) = true := (rfl)
theorem notOw_emp : notOw (some .emp) = true := (rfl)
theorem notOw_none : notOw none = true := (rfl)
theorem ownFree_eq (env : En) (own : List Nat) : ownFree env own = own.all fun i => notOw env[i]? := (rfl)
/-- a slot that owns nothing -/
def nz : Option D → Sl
  | none => .emp
  | some d => .fz d
theorem notOw_nz (o : Option D) : notOw (some (nz o)) = true := by cases o <;> rfl
theorem nz_some (d : D) : nz (some d) = .fz d := (rfl)
theorem nz_none : nz none = .emp := (rfl)
section
variable {T : List D} {C : Calls} {env : En}
theorem st_lc (tg : Ct) (cs : Ces) (e : Ce) (own : List Nat) (d : D) : lcSt T C tg cs e own d env = bnd (bindT env tg d) (fun env => bnd (evalCs T C cs env) (fun c => if c.1 then mp (evalE T C e c.2) (fun r => (some r.1.dat, wipeE r.2 own)) ⟨⟩ else some (none, wipeE c.2 own)) ⟨⟩) ⟨⟩ := (rfl)
theorem st_lc2 (tg : Ct) (cs : Ces) (tg1 : Ct) (it1 : Ci) (cs1 : Ces) (e : Ce) (own own1 : List Nat) (d : D) : lc2St T C tg cs tg1 it1 cs1 e own own1 d env = bnd (bindT env tg d) (fun env => bnd (evalCs T C cs env) (fun c => if c.1 then bnd (evalI T C it1 c.2) (fun y => mp (lcLoop (lcSt T C tg1 cs1 e own1) y.1 (wipeE y.2 own1)) (fun r => (r.1, wipeE r.2 own)) ⟨⟩) ⟨⟩ else some ([], wipeE c.2 own)) ⟨⟩) ⟨⟩ := (rfl)
theorem st_dc (tg : Ct) (cs : Ces) (k v : Ce) (own : List Nat) (d : D) : dcSt T C tg cs k v own d env = bnd (bindT env tg d) (fun env => bnd (evalCs T C cs env) (fun c => if c.1 then bnd (evalE T C k c.2) (fun r => if keyable r.1.dat then bnd (evalE T C v r.2) (fun q => if noDict q.1.dat then some (some (r.1.dat, q.1.dat), wipeE q.2 own) else none) ⟨⟩ else none) ⟨⟩ else some (none, wipeE c.2 own)) ⟨⟩) ⟨⟩ := (rfl)
def lcPut : Option D → List D → List D
  | some d, r => d :: r
  | none, r => r
theorem lcPut_some (d : D) (r : List D) : lcPut (some d) r = d :: r := (rfl)
theorem lcPut_none (r : List D) : lcPut none r = r := (rfl)
theorem lcL_nil (step : D → En → Option (Option D × En)) : lcLoop step [] env = some ([], env) := (rfl)
theorem lcL_cons (step : D → En → Option (Option D × En)) (x : D) (xs : List D) : lcLoop step (x :: xs) env = bnd (step x env) (fun p => mp (lcLoop step xs p.2) (fun q => (lcPut p.1 q.1, q.2)) ⟨⟩) ⟨⟩ := by
  show (step x env).bind _ = (step x env).bind _
  congr 1; funext p
  show (lcLoop step xs p.2).map _ = (lcLoop step xs p.2).map _
  congr 1; funext q
  rcases p with ⟨_ | _, _⟩ <;> rfl
theorem ev_ssnil (is : List (Nat × Bool)) : evalSs T C is .nil env = some ([], env) := by cases is <;> rfl
theorem ev_sscons (i : Nat) (own : Bool) (is : List (Nat × Bool)) (e : Ce) (r : Ces) : evalSs T C ((i, own) :: is) (.cons e r) env = bnd (evalE T C e env) (fun x => mp (evalSs T C is r x.2) (fun y => ((if own then x.1 else x.1.thaw) :: y.1, y.2)) ⟨⟩) ⟨⟩ := (rfl)
end
end Ky
end

section
set_option autoImplicit false
set_option linter.all false
set_option maxRecDepth 100000
set_option Elab.async false
/-! The core over values with a Lean type (the kit's Datum). -/
namespace Ky
open PySem PySem.W
abbrev toD {α : Type} [DecidableEq α] [Datum α] (a : α) : D := Datum.toD a
abbrev Cell := T3 Int Int Int
theorem int_fold (i : Int) : PyData.int i = Datum.toD i := (rfl)
theorem bool_fold (b : Bool) : PyData.bool b = Datum.toD b := (rfl)
theorem str_fold (s : Str) : PyData.str s = Datum.toD s := (rfl)
section
variable {α β γ δ : Type} [DecidableEq α] [Datum α] [DecidableEq β] [Datum β] [DecidableEq γ] [Datum γ] [DecidableEq δ] [Datum δ]
theorem pair_fold (a : α) (b : β) : PyData.tuple [Datum.toD a, Datum.toD b] = Datum.toD (a, b) := (rfl)
theorem t3_fold (a : α) (b : β) (c : γ) : PyData.tuple [Datum.toD a, Datum.toD b, Datum.toD c] = Datum.toD (T3.mk a b c) := (rfl)
theorem t4_fold (a : α) (b : β) (c : γ) (d : δ) : PyData.tuple [Datum.toD a, Datum.toD b, Datum.toD c, Datum.toD d] = Datum.toD (T4.mk a b c d) := (rfl)
theorem list_fold (xs : List α) : PyData.list (xs.map Datum.toD) = Datum.toD xs := (rfl)
theorem tup_fold (xs : List α) : PyData.tuple (xs.map Datum.toD) = Datum.toD (Tup.mk xs) := (rfl)
@[simp] theorem noDict_toD (a : α) : noDict (Datum.toD a) = true := by
  have h := Datum.plain a
  unfold noDict
  split
  · rename_i kvs e
    rw [e] at h
    simp [PyData.plain] at h
  · rfl
theorem all_noDict (xs : List α) : (xs.map Datum.toD).all noDict = true := by simp
theorem dok_toD (a : α) (h : Datum.depth α ≤ 64) : dok (Datum.toD a) = true := by
  unfold dok; exact decide_eq_true (Nat.le_trans (Datum.depth_le a) h)
@[simp] theorem plain_toD (a : α) : (Datum.toD a).plain = true := Datum.plain a
@[simp] theorem plainAll_toD (xs : List α) : PyData.plainAll (xs.map Datum.toD) = true := plainAll_map xs
@[simp] theorem eqv_toD (a b : α) : PyData.eqv (Datum.toD a) (Datum.toD b) = decide (a = b) := Datum.eqv a b
/-! making -/
theorem mkL_map (xs : List α) (h : xs.length ≤ SL) : mkL (xs.map Datum.toD) = some (Datum.toD xs) := by
  unfold mkL guardL
  rw [all_noDict, if_pos rfl, List.length_map, if_pos h]
  rfl
@[simp] theorem mkL_0 : mkL [] = some (.list []) := (rfl)
@[simp] theorem mkL_1 (a : α) : mkL [Datum.toD a] = some (Datum.toD [a]) := by simp [mkL, guardL, SL, list_fold]; rfl
@[simp] theorem mkL_2 (a b : α) : mkL [Datum.toD a, Datum.toD b] = some (Datum.toD [a, b]) := by simp [mkL, guardL, SL]; rfl
@[simp] theorem mkL_3 (a b c : α) : mkL [Datum.toD a, Datum.toD b, Datum.toD c] = some (Datum.toD [a, b, c]) := by simp [mkL, guardL, SL]; rfl
@[simp] theorem mkL_4 (a b c d : α) : mkL [Datum.toD a, Datum.toD b, Datum.toD c, Datum.toD d] = some (Datum.toD [a, b, c, d]) := by simp [mkL, guardL, SL]; rfl
@[simp] theorem mkL_6 (a b c d e f : α) : mkL [Datum.toD a, Datum.toD b, Datum.toD c, Datum.toD d, Datum.toD e, Datum.toD f] = some (Datum.toD [a, b, c, d, e, f]) := by simp [mkL, guardL, SL]; rfl
@[simp] theorem mkT_0 : mkT [] = some (.tuple []) := (rfl)
@[simp] theorem mkT_1 (a : α) : mkT [Datum.toD a] = some (Datum.toD (Tup.mk [a])) := by simp [mkT, guardT, SL]; rfl
@[simp] theorem mkT_2 (a : α) (b : β) : mkT [Datum.toD a, Datum.toD b] = some (Datum.toD (a, b)) := by simp [mkT, guardT, SL]; rfl
@[simp] theorem mkT_3 (a : α) (b : β) (c : γ) : mkT [Datum.toD a, Datum.toD b, Datum.toD c] = some (Datum.toD (T3.mk a b c)) := by simp [mkT, guardT, SL]; rfl
@[simp] theorem mkT_4 (a : α) (b : β) (c : γ) (d : δ) : mkT [Datum.toD a, Datum.toD b, Datum.toD c, Datum.toD d] = some (Datum.toD (T4.mk a b c d)) := by simp [mkT, guardT, SL]; rfl
/-! lists -/
@[simp] theorem f1_len_list (xs : List α) : f1 .len (Datum.toD xs) = some (Datum.toD (xs.length : Int)) := by
  show some (PyData.int ((xs.map Datum.toD).length : Int)) = _
  rw [List.length_map]; rfl
@[simp] theorem f1_len_tup (xs : List α) : f1 .len (Datum.toD (Tup.mk xs)) = some (Datum.toD (xs.length : Int)) := by
  show some (PyData.int ((xs.map Datum.toD).length : Int)) = _
  rw [List.length_map]; rfl
@[simp] theorem f1_len_pair (a : α) (b : β) : f1 .len (Datum.toD (a, b)) = some (Datum.toD (2 : Int)) := (rfl)
@[simp] theorem f1_len_t3 (p : T3 α β γ) : f1 .len (Datum.toD p) = some (Datum.toD (3 : Int)) := (rfl)
@[simp] theorem f1_tup_list (xs : List α) : f1 .tup (Datum.toD xs) = some (Datum.toD (Tup.mk xs)) := (rfl)
@[simp] theorem f1_tup_tup (xs : List α) : f1 .tup (Datum.toD (Tup.mk xs)) = some (Datum.toD (Tup.mk xs)) := (rfl)
@[simp] theorem f1_lst_tup (xs : List α) : f1 .lst (Datum.toD (Tup.mk xs)) = some (Datum.toD xs) := (rfl)
@[simp] theorem f1_lst_list (xs : List α) : f1 .lst (Datum.toD xs) = some (Datum.toD xs) := (rfl)
@[simp] theorem f1_rev_list (xs : List α) : f1 .rev (Datum.toD xs) = some (Datum.toD xs.reverse) := by
  show some (PyData.list (xs.map Datum.toD).reverse) = _
  rw [← List.map_reverse]; rfl
@[simp] theorem f1_rev_tup (xs : List α) : f1 .rev (Datum.toD (Tup.mk xs)) = some (Datum.toD (Tup.mk xs.reverse)) := by
  show some (PyData.tuple (xs.map Datum.toD).reverse) = _
  rw [← List.map_reverse]; rfl
theorem ixOf_map {α β : Type} (f : α → β) (xs : List α) (i : Int) : ixOf (xs.map f) i = (ixOf xs i).map f := by
  unfold ixOf
  rw [List.length_map]
  split
  · rw [List.getElem?_map]
  · split
    · rw [List.getElem?_map]
    · rfl
@[simp] theorem f2_ix_list (xs : List α) (i : Int) : f2 .ix (Datum.toD xs) (Datum.toD i) = (ixOf xs i).map Datum.toD := ixOf_map _ _ _
@[simp] theorem f2_ix_tup (xs : List α) (i : Int) : f2 .ix (Datum.toD (Tup.mk xs)) (Datum.toD i) = (ixOf xs i).map Datum.toD := ixOf_map _ _ _
@[simp] theorem f2_ix_pair0 (p : α × β) : f2 .ix (Datum.toD p) (Datum.toD (0 : Int)) = some (Datum.toD p.1) := (rfl)
@[simp] theorem f2_ix_pair1 (p : α × β) : f2 .ix (Datum.toD p) (Datum.toD (1 : Int)) = some (Datum.toD p.2) := (rfl)
@[simp] theorem f2_ix_t30 (p : T3 α β γ) : f2 .ix (Datum.toD p) (Datum.toD (0 : Int)) = some (Datum.toD p.a) := (rfl)
@[simp] theorem f2_ix_t31 (p : T3 α β γ) : f2 .ix (Datum.toD p) (Datum.toD (1 : Int)) = some (Datum.toD p.b) := (rfl)
@[simp] theorem f2_ix_t32 (p : T3 α β γ) : f2 .ix (Datum.toD p) (Datum.toD (2 : Int)) = some (Datum.toD p.c) := (rfl)
theorem any_eqv (a : α) (xs : List α) : ((xs.map Datum.toD).any fun x => PyData.eqv x (Datum.toD a)) = decide (a ∈ xs) := by
  rw [List.any_map]
  rw [Bool.eq_iff_iff, List.any_eq_true, decide_eq_true_eq]
  constructor
  · rintro ⟨x, hx, h⟩
    have h : PyData.eqv (Datum.toD x) (Datum.toD a) = true := h
    rw [eqv_toD, decide_eq_true_eq] at h
    rw [← h]; exact hx
  · intro h
    exact ⟨a, h, by show PyData.eqv (Datum.toD a) (Datum.toD a) = true; rw [eqv_toD]; exact decide_eq_true rfl⟩
theorem f2_in_list (a : α) (xs : List α) (h : Datum.depth α ≤ 64) : f2 .isin (Datum.toD a) (Datum.toD xs) = some (Datum.toD (decide (a ∈ xs))) := by
  have e : f2 .isin (Datum.toD a) (.list (xs.map Datum.toD)) = if (Datum.toD a).plain && PyData.plainAll (xs.map Datum.toD) && dok (Datum.toD a) then some (.bool ((xs.map Datum.toD).any fun x => PyData.eqv x (Datum.toD a))) else none := by
    unfold f2; rfl
  show f2 .isin (Datum.toD a) (.list (xs.map Datum.toD)) = _
  rw [e, plain_toD, plainAll_toD, dok_toD a h, any_eqv]
  rfl
theorem f2_notin_list (a : α) (xs : List α) (h : Datum.depth α ≤ 64) : f2 .notin (Datum.toD a) (Datum.toD xs) = some (Datum.toD (!decide (a ∈ xs))) := by
  have e : f2 .notin (Datum.toD a) (.list (xs.map Datum.toD)) = if (Datum.toD a).plain && PyData.plainAll (xs.map Datum.toD) && dok (Datum.toD a) then some (.bool (!(xs.map Datum.toD).any fun x => PyData.eqv x (Datum.toD a))) else none := by
    unfold f2; rfl
  show f2 .notin (Datum.toD a) (.list (xs.map Datum.toD)) = _
  rw [e, plain_toD, plainAll_toD, dok_toD a h, any_eqv]
  rfl
theorem f2_in_tup (a : α) (xs : List α) (h : Datum.depth α ≤ 64) : f2 .isin (Datum.toD a) (Datum.toD (Tup.mk xs)) = some (Datum.toD (decide (a ∈ xs))) := by
  have e : f2 .isin (Datum.toD a) (.tuple (xs.map Datum.toD)) = if (Datum.toD a).plain && PyData.plainAll (xs.map Datum.toD) && dok (Datum.toD a) then some (.bool ((xs.map Datum.toD).any fun x => PyData.eqv x (Datum.toD a))) else none := by
    unfold f2; rfl
  show f2 .isin (Datum.toD a) (.tuple (xs.map Datum.toD)) = _
  rw [e, plain_toD, plainAll_toD, dok_toD a h, any_eqv]
  rfl
theorem f2_notin_tup (a : α) (xs : List α) (h : Datum.depth α ≤ 64) : f2 .notin (Datum.toD a) (Datum.toD (Tup.mk xs)) = some (Datum.toD (!decide (a ∈ xs))) := by
  have e : f2 .notin (Datum.toD a) (.tuple (xs.map Datum.toD)) = if (Datum.toD a).plain && PyData.plainAll (xs.map Datum.toD) && dok (Datum.toD a) then some (.bool (!(xs.map Datum.toD).any fun x => PyData.eqv x (Datum.toD a))) else none := by
    unfold f2; rfl
  show f2 .notin (Datum.toD a) (.tuple (xs.map Datum.toD)) = _
  rw [e, plain_toD, plainAll_toD, dok_toD a h, any_eqv]
  rfl
theorem f2_eq (a b : α) (h : Datum.depth α ≤ 64) : f2 .eq (Datum.toD a) (Datum.toD b) = some (Datum.toD (decide (a = b))) := by
  have e : f2 .eq (Datum.toD a) (Datum.toD b) = if (Datum.toD a).plain && (Datum.toD b).plain && dok (Datum.toD a) then some (.bool (PyData.eqv (Datum.toD a) (Datum.toD b))) else none := by
    unfold f2; rfl
  rw [e, plain_toD, plain_toD, dok_toD a h, eqv_toD]
  rfl
theorem f2_ne (a b : α) (h : Datum.depth α ≤ 64) : f2 .ne (Datum.toD a) (Datum.toD b) = some (Datum.toD (!decide (a = b))) := by
  have e : f2 .ne (Datum.toD a) (Datum.toD b) = if (Datum.toD a).plain && (Datum.toD b).plain && dok (Datum.toD a) then some (.bool (!PyData.eqv (Datum.toD a) (Datum.toD b))) else none := by
    unfold f2; rfl
  rw [e, plain_toD, plain_toD, dok_toD a h, eqv_toD]
  rfl
theorem f2_add_list (xs ys : List α) (h : xs.length + ys.length ≤ SL) : f2 .add (Datum.toD xs) (Datum.toD ys) = some (Datum.toD (xs ++ ys)) := by
  show guardL (xs.map Datum.toD ++ ys.map Datum.toD) = _
  rw [← List.map_append]
  unfold guardL
  rw [List.length_map, List.length_append, if_pos h]
  rfl
theorem f2_add_tup (xs ys : List α) (h : xs.length + ys.length ≤ SL) : f2 .add (Datum.toD (Tup.mk xs)) (Datum.toD (Tup.mk ys)) = some (Datum.toD (Tup.mk (xs ++ ys))) := by
  show guardT (xs.map Datum.toD ++ ys.map Datum.toD) = _
  rw [← List.map_append]
  unfold guardT
  rw [List.length_map, List.length_append, if_pos h]
  rfl
theorem cut_map {α β : Type} (f : α → β) (xs : List α) (lo hi : Option Int) : cut (xs.map f) lo hi = (cut xs lo hi).map f := by
  unfold cut
  rw [List.length_map, ← List.map_drop, ← List.map_take]
@[simp] theorem f2_lo_list (xs : List α) (i : Int) : f2 .slLo (Datum.toD xs) (Datum.toD i) = some (Datum.toD (cut xs (some i) none)) := by
  show some (PyData.list (cut (xs.map Datum.toD) (some i) none)) = _
  rw [cut_map]; rfl
@[simp] theorem f2_lo_tup (xs : List α) (i : Int) : f2 .slLo (Datum.toD (Tup.mk xs)) (Datum.toD i) = some (Datum.toD (Tup.mk (cut xs (some i) none))) := by
  show some (PyData.tuple (cut (xs.map Datum.toD) (some i) none)) = _
  rw [cut_map]; rfl
@[simp] theorem f2_hi_list (xs : List α) (i : Int) : f2 .slHi (Datum.toD xs) (Datum.toD i) = some (Datum.toD (cut xs none (some i))) := by
  show some (PyData.list (cut (xs.map Datum.toD) none (some i))) = _
  rw [cut_map]; rfl
@[simp] theorem f2_hi_tup (xs : List α) (i : Int) : f2 .slHi (Datum.toD (Tup.mk xs)) (Datum.toD i) = some (Datum.toD (Tup.mk (cut xs none (some i)))) := by
  show some (PyData.tuple (cut (xs.map Datum.toD) none (some i))) = _
  rw [cut_map]; rfl
@[simp] theorem itemsOf_list (xs : List α) : itemsOf (Datum.toD xs) = some (xs.map Datum.toD) := (rfl)
@[simp] theorem itemsOf_tup (xs : List α) : itemsOf (Datum.toD (Tup.mk xs)) = some (xs.map Datum.toD) := (rfl)
@[simp] theorem itemsOf_t3 (p : T3 α β γ) : itemsOf (Datum.toD p) = some [Datum.toD p.a, Datum.toD p.b, Datum.toD p.c] := (rfl)
@[simp] theorem itemsOf_pair (p : α × β) : itemsOf (Datum.toD p) = some [Datum.toD p.1, Datum.toD p.2] := (rfl)
@[simp] theorem srcOf_list (xs : List α) : srcOf (Datum.toD xs) = some (xs.map Datum.toD) := (rfl)
@[simp] theorem srcOf_tup (xs : List α) : srcOf (Datum.toD (Tup.mk xs)) = some (xs.map Datum.toD) := (rfl)
@[simp] theorem srcOf_t3 (p : T3 α β γ) : srcOf (Datum.toD p) = some [Datum.toD p.a, Datum.toD p.b, Datum.toD p.c] := (rfl)
@[simp] theorem isStrD_list (xs : List α) : isStrD (Datum.toD xs) = false := (rfl)
@[simp] theorem isStrD_tup (xs : List α) : isStrD (Datum.toD (Tup.mk xs)) = false := (rfl)
@[simp] theorem isStrD_t3 (p : T3 α β γ) : isStrD (Datum.toD p) = false := (rfl)
@[simp] theorem isStrD_pair (p : α × β) : isStrD (Datum.toD p) = false := (rfl)
theorem bindT_pair (env : En) (is : List Nat) (p : α × β) : bindT env (.tp is) (Datum.toD p) = store env is [Datum.toD p.1, Datum.toD p.2] := (rfl)
theorem bindT_t3 (env : En) (is : List Nat) (p : T3 α β γ) : bindT env (.tp is) (Datum.toD p) = store env is [Datum.toD p.a, Datum.toD p.b, Datum.toD p.c] := (rfl)
theorem bindT_t4 (env : En) (is : List Nat) (p : T4 α β γ δ) : bindT env (.tp is) (Datum.toD p) = store env is [Datum.toD p.a, Datum.toD p.b, Datum.toD p.c, Datum.toD p.d] := (rfl)
theorem zip_map2 (xs : List α) (ys : List β) : (((xs.map Datum.toD).zip (ys.map Datum.toD)).map fun p => PyData.tuple [p.1, p.2]) = (xs.zip ys).map Datum.toD := by
  rw [List.zip_map, List.map_map]; rfl
@[simp] theorem zipOf_ll (xs : List α) (ys : List β) : zipOf [Datum.toD xs, Datum.toD ys] = some ((xs.zip ys).map Datum.toD) := by
  show some (((xs.map Datum.toD).zip (ys.map Datum.toD)).map fun p => PyData.tuple [p.1, p.2]) = _
  rw [zip_map2]
@[simp] theorem zipOf_tt (xs : List α) (ys : List β) : zipOf [Datum.toD (Tup.mk xs), Datum.toD (Tup.mk ys)] = some ((xs.zip ys).map Datum.toD) := by
  show some (((xs.map Datum.toD).zip (ys.map Datum.toD)).map fun p => PyData.tuple [p.1, p.2]) = _
  rw [zip_map2]
@[simp] theorem zipOf_lt (xs : List α) (ys : List β) : zipOf [Datum.toD xs, Datum.toD (Tup.mk ys)] = some ((xs.zip ys).map Datum.toD) := by
  show some (((xs.map Datum.toD).zip (ys.map Datum.toD)).map fun p => PyData.tuple [p.1, p.2]) = _
  rw [zip_map2]
@[simp] theorem zipOf_tl (xs : List α) (ys : List β) : zipOf [Datum.toD (Tup.mk xs), Datum.toD ys] = some ((xs.zip ys).map Datum.toD) := by
  show some (((xs.map Datum.toD).zip (ys.map Datum.toD)).map fun p => PyData.tuple [p.1, p.2]) = _
  rw [zip_map2]
@[simp] theorem zipOf_t3 (p q : T3 α α α) : zipOf [Datum.toD p, Datum.toD q] = some [Datum.toD (p.a, q.a), Datum.toD (p.b, q.b), Datum.toD (p.c, q.c)] := (rfl)
/-- with its place -/
def enumT {α : Type} (xs : List α) : List (Int × α) := xs.mapIdx fun i x => ((i : Int), x)
@[simp] theorem enumOf_map (xs : List α) : enumOf (xs.map Datum.toD) = (enumT xs).map Datum.toD := by
  unfold enumOf enumT
  apply List.ext_getElem?
  intro i
  simp only [List.getElem?_mapIdx, List.getElem?_map, Option.map_map]
  rfl
/-! changes -/
theorem preM_append (xs : List α) : preM .append (some (.ow (Datum.toD xs))) = some () := (rfl)
theorem preM_pop (xs : List α) : preM .pop (some (.ow (Datum.toD xs))) = some () := (rfl)
theorem preM_extend (xs : List α) : preM .extend (some (.ow (Datum.toD xs))) = some () := (rfl)
theorem preM_set (d : D) : preM .set (some (.ow d)) = some () := (rfl)
theorem preM_addI (d : D) : preM .addI (some (.ow d)) = some () := (rfl)
theorem fM_append (xs : List α) (a : α) (h : xs.length < SL) : fM .append (Datum.toD xs) [Datum.toD a] = some (Datum.toD (xs ++ [a]), .none) := by
  show (if noDict (Datum.toD a) && decide ((xs.map Datum.toD).length < SL) then some (PyData.list (xs.map Datum.toD ++ [Datum.toD a]), PyData.none) else none) = _
  rw [noDict_toD, List.length_map, decide_eq_true h, Bool.and_self, if_pos rfl]
  show _ = some (PyData.list ((xs ++ [a]).map Datum.toD), PyData.none)
  rw [List.map_append]; rfl
theorem fM_extend (xs ys : List α) (h : xs.length + ys.length ≤ SL) : fM .extend (Datum.toD xs) [Datum.toD ys] = some (Datum.toD (xs ++ ys), .none) := by
  show (if decide ((xs.map Datum.toD).length + (ys.map Datum.toD).length ≤ SL) then some (PyData.list (xs.map Datum.toD ++ ys.map Datum.toD), PyData.none) else none) = _
  rw [List.length_map, List.length_map, decide_eq_true h, if_pos rfl, ← List.map_append]
  rfl
theorem fM_pop (xs : List α) : fM .pop (Datum.toD xs) [] = xs.getLast?.map fun a => (Datum.toD xs.dropLast, Datum.toD a) := by
  show (xs.map Datum.toD).getLast?.map (fun d => (PyData.list (xs.map Datum.toD).dropLast, d)) = _
  rw [List.getLast?_map, Option.map_map]
  congr 1; funext a
  show (PyData.list (xs.map Datum.toD).dropLast, Datum.toD a) = (PyData.list (xs.dropLast.map Datum.toD), Datum.toD a)
  rw [List.map_dropLast]
end
/-! whole numbers -/
theorem f1_neg (a : Int) : f1 .neg (Datum.toD a) = some (Datum.toD (-a)) := (rfl)
theorem f1_abs (a : Int) : f1 .abs (Datum.toD a) = some (Datum.toD (if a < 0 then -a else a)) := (rfl)
theorem f1_int (a : Int) : f1 .int (Datum.toD a) = some (Datum.toD a) := (rfl)
theorem f2_add (a b : Int) : f2 .add (Datum.toD a) (Datum.toD b) = some (Datum.toD (a + b)) := (rfl)
theorem f2_sub (a b : Int) : f2 .sub (Datum.toD a) (Datum.toD b) = some (Datum.toD (a - b)) := (rfl)
theorem f2_mul (a b : Int) (h : (small a || small b) = true) : f2 .mul (Datum.toD a) (Datum.toD b) = some (Datum.toD (a * b)) := by
  show (if small a || small b then some (PyData.int (a * b)) else none) = _
  rw [if_pos h]; rfl
theorem f2_fdiv (a b : Int) (h0 : b ≠ 0) (h : b.natAbs < 1073741824) : f2 .fdiv (Datum.toD a) (Datum.toD b) = some (Datum.toD (a.fdiv b)) := by
  show (if decide (b ≠ 0) && decide (b.natAbs < 1073741824) then some (PyData.int (a.fdiv b)) else none) = _
  rw [decide_eq_true h0, decide_eq_true h]; rfl
theorem f2_mod (a b : Int) (h0 : b ≠ 0) : f2 .mod (Datum.toD a) (Datum.toD b) = some (Datum.toD (a.fmod b)) := by
  show (if b ≠ 0 then some (PyData.int (a.fmod b)) else none) = _
  rw [if_pos h0]; rfl
theorem f2_lt (a b : Int) : f2 .lt (Datum.toD a) (Datum.toD b) = some (Datum.toD (decide (a < b))) := (rfl)
theorem f2_le (a b : Int) : f2 .le (Datum.toD a) (Datum.toD b) = some (Datum.toD (decide (a ≤ b))) := (rfl)
theorem f2_gt (a b : Int) : f2 .gt (Datum.toD a) (Datum.toD b) = some (Datum.toD (decide (b < a))) := (rfl)
theorem f2_ge (a b : Int) : f2 .ge (Datum.toD a) (Datum.toD b) = some (Datum.toD (decide (b ≤ a))) := (rfl)
theorem f2_mn2 (a b : Int) : f2 .mn2 (Datum.toD a) (Datum.toD b) = some (Datum.toD (min a b)) := by
  show some (PyData.int (if b < a then b else a)) = some (PyData.int (min a b))
  congr 2; split <;> omega
theorem f2_mx2 (a b : Int) : f2 .mx2 (Datum.toD a) (Datum.toD b) = some (Datum.toD (max a b)) := by
  show some (PyData.int (if b > a then b else a)) = some (PyData.int (max a b))
  congr 2; split <;> omega
theorem augD_add (a b : Int) : augD .add (Datum.toD a) (Datum.toD b) = some (Datum.toD (a + b)) := (rfl)
theorem augD_sub (a b : Int) : augD .sub (Datum.toD a) (Datum.toD b) = some (Datum.toD (a - b)) := (rfl)
theorem boolsOf_map : ∀ bs : List Bool, boolsOf (bs.map Datum.toD) = some bs
  | [] => rfl
  | b :: r => by
    show (boolsOf (r.map Datum.toD)).map (b :: ·) = _
    rw [boolsOf_map r]; rfl
theorem intsOf_map : ∀ bs : List Int, intsOf (bs.map Datum.toD) = some bs
  | [] => rfl
  | b :: r => by
    show (intsOf (r.map Datum.toD)).map (b :: ·) = _
    rw [intsOf_map r]; rfl
theorem f1_all (bs : List Bool) : f1 .all (Datum.toD bs) = some (Datum.toD (bs.all id)) := by
  show (boolsOf (bs.map Datum.toD)).map (fun bs => PyData.bool (bs.all id)) = _
  rw [boolsOf_map]; rfl
theorem f1_any (bs : List Bool) : f1 .any (Datum.toD bs) = some (Datum.toD (bs.any id)) := by
  show (boolsOf (bs.map Datum.toD)).map (fun bs => PyData.bool (bs.any id)) = _
  rw [boolsOf_map]; rfl
theorem f1_sum (is : List Int) : f1 .sum (Datum.toD is) = some (Datum.toD is.sum) := by
  show (intsOf (is.map Datum.toD)).map (fun bs => PyData.int bs.sum) = _
  rw [intsOf_map]; rfl
/-- a, .., b - 1 -/
def rangeT (a b : Int) : List Int := (List.range (b - a).toNat).map fun (i : Nat) => a + i
theorem rangeOf_2 (a b : Int) (ha : fits62 a = true) (hb : fits62 b = true) : rangeOf [Datum.toD a, Datum.toD b] = some ((rangeT a b).map Datum.toD) := by
  show (if fits62 a && fits62 b then some (rangeUp a (b - a).toNat) else none) = _
  rw [ha, hb]
  show some (rangeUp a (b - a).toNat) = _
  unfold rangeUp rangeT
  rw [List.map_map]; rfl
theorem rangeOf_1 (b : Int) (hb : fits62 b = true) : rangeOf [Datum.toD b] = some ((rangeT 0 b).map Datum.toD) := by
  show (if fits62 b then some (rangeUp 0 b.toNat) else none) = _
  rw [hb]
  show some (rangeUp 0 b.toNat) = _
  unfold rangeUp rangeT
  rw [List.map_map, Int.sub_zero]; rfl
theorem fits62_of {a : Int} (h1 : -4611686018427387904 ≤ a) (h2 : a < 4611686018427387904) : fits62 a = true := by
  unfold fits62
  rw [Bool.and_eq_true, decide_eq_true_eq, decide_eq_true_eq]
  omega
theorem small_ok {a : Int} (h1 : -18446744073709551616 < a) (h2 : a < 18446744073709551616) : small a = true := by
  unfold small
  rw [Bool.and_eq_true, decide_eq_true_eq, decide_eq_true_eq]
  omega
theorem mem_rangeT {a b i : Int} : i ∈ rangeT a b ↔ a ≤ i ∧ i < b := by
  unfold rangeT
  rw [List.mem_map]
  constructor
  · rintro ⟨k, hk, rfl⟩
    have := List.mem_range.mp hk
    omega
  · rintro ⟨h1, h2⟩
    exact ⟨(i - a).toNat, List.mem_range.mpr (by omega), by omega⟩
theorem length_rangeT (a b : Int) : (rangeT a b).length = (b - a).toNat := by simp [rangeT]
/-! kinds -/
section
variable {α β γ : Type} [DecidableEq α] [Datum α] [DecidableEq β] [Datum β] [DecidableEq γ] [Datum γ]
@[simp] theorem isI_int_int (a : Int) : f1 (.isI .int) (Datum.toD a) = some (Datum.toD true) := (rfl)
@[simp] theorem isI_bool_int (a : Int) : f1 (.isI .bool) (Datum.toD a) = some (Datum.toD false) := (rfl)
@[simp] theorem isI_tup_int (a : Int) : f1 (.isI .tup) (Datum.toD a) = some (Datum.toD false) := (rfl)
@[simp] theorem isI_str_int (a : Int) : f1 (.isI .str) (Datum.toD a) = some (Datum.toD false) := (rfl)
@[simp] theorem isI_bool_bool (a : Bool) : f1 (.isI .bool) (Datum.toD a) = some (Datum.toD true) := (rfl)
@[simp] theorem isI_int_bool (a : Bool) : f1 (.isI .int) (Datum.toD a) = some (Datum.toD true) := (rfl)
@[simp] theorem isI_tup_bool (a : Bool) : f1 (.isI .tup) (Datum.toD a) = some (Datum.toD false) := (rfl)
@[simp] theorem isI_tup_t3 (p : T3 α β γ) : f1 (.isI .tup) (Datum.toD p) = some (Datum.toD true) := (rfl)
@[simp] theorem isI_tup_pair (p : α × β) : f1 (.isI .tup) (Datum.toD p) = some (Datum.toD true) := (rfl)
@[simp] theorem isI_tup_tup (p : Tup α) : f1 (.isI .tup) (Datum.toD p) = some (Datum.toD true) := (rfl)
@[simp] theorem isI_tup_list (p : List α) : f1 (.isI .tup) (Datum.toD p) = some (Datum.toD false) := (rfl)
@[simp] theorem isB_t (a : Bool) : f1 (.isB true) (Datum.toD a) = some (Datum.toD a) := by cases a <;> rfl
@[simp] theorem isB_f (a : Bool) : f1 (.isB false) (Datum.toD a) = some (Datum.toD (!a)) := by cases a <;> rfl
@[simp] theorem notB_t (a : Bool) : f1 (.notB true) (Datum.toD a) = some (Datum.toD (!a)) := by cases a <;> rfl
@[simp] theorem notB_f (a : Bool) : f1 (.notB false) (Datum.toD a) = some (Datum.toD a) := by cases a <;> rfl
end
/-! truth values, folded -/
section
variable {T : List D} {C : Calls} {env : En}
@[simp] theorem andK_t (b : Ce) (x : Bool) : andK T C b (.fz (Datum.toD x), env) = if x = true then evalE T C b env else some (.fz (Datum.toD false), env) := andK_b b x
@[simp] theorem orK_t (b : Ce) (x : Bool) : orK T C b (.fz (Datum.toD x), env) = if x = true then some (.fz (Datum.toD true), env) else evalE T C b env := orK_b b x
@[simp] theorem notK_t (x : Bool) : notK (.fz (Datum.toD x), env) = some (.fz (Datum.toD (!x)), env) := (rfl)
@[simp] theorem iteK_t (a b : Ce) (x : Bool) : iteK T C a b (.fz (Datum.toD x), env) = if x = true then evalE T C a env else evalE T C b env := iteK_b a b x
@[simp] theorem ifK_t (a b : Cb) (x : Bool) : ifK T C a b (.fz (Datum.toD x), env) = if x = true then execB T C a env else execB T C b env := ifK_b a b x
@[simp] theorem csK_t (r : Ces) (x : Bool) : csK T C r (.fz (Datum.toD x), env) = if x = true then evalCs T C r env else some (false, env) := csK_b r x
@[simp] theorem chK_t (q : P2) (c : Co) (x : Wv) (y : Wv × En) (b : Bool) : chK T C q c x y (some (Datum.toD b)) = if b = true then bnd (evalO T C c y.2) (fun z => bnd (y.1.get z.2) (fun e => bnd (z.1.get z.2) (fun g => mp (f2 q e g) (fun r => (.fz r, z.2)) ⟨⟩) ⟨⟩) ⟨⟩) ⟨⟩ else some (.fz (Datum.toD false), y.2) := chK_b q c x y b
@[simp] theorem sl_ite_t (p : Prop) [Decidable p] (x y : Bool) : (if p then some (Sl.fz (Datum.toD x), env) else some (Sl.fz (Datum.toD y), env)) = some (Sl.fz (Datum.toD (if p then x else y)), env) := by split <;> rfl
end
end Ky
end

section
set_option autoImplicit false
set_option linter.all false
set_option maxRecDepth 100000
set_option Elab.async false
/-! Comprehensions, sorting, dicts and loops over values with a Lean type. -/
namespace Ky
open PySem PySem.W
section
variable {α β γ δ σ J : Type} [DecidableEq α] [Datum α] [DecidableEq β] [Datum β] {T : List D} {C : Calls} {env env1 : En}
/-! ### comprehensions -/
theorem lc_F {tg : Ct} {it : Ci} {cs : Ces} {e : Ce} {own : List Nat} {xs : List α} {p : α → Bool} {g : α → β}
    (hi : evalI T C it env = some (xs.map Datum.toD, env1)) (hf : ownFree env1 own = true) (hl : xs.length ≤ SL)
    (hs : ∀ x ∈ xs, lcSt T C tg cs e own (Datum.toD x) (wipeE env1 own) = some (if p x then some (Datum.toD (g x)) else none, wipeE env1 own)) :
    evalE T C (.lc tg it cs e own) env = some (.ow (Datum.toD ((xs.filter p).map g)), unwipe (wipeE env1 own) env1 own) := by
  have key : ∀ ys : List α, (∀ x ∈ ys, lcSt T C tg cs e own (Datum.toD x) (wipeE env1 own) = some (if p x then some (Datum.toD (g x)) else none, wipeE env1 own)) → lcLoop (lcSt T C tg cs e own) (ys.map Datum.toD) (wipeE env1 own) = some (((ys.filter p).map g).map Datum.toD, wipeE env1 own) := by
    intro ys
    induction ys with
    | nil => intro _; rfl
    | cons y ys ih =>
      intro h
      have h1 := h y List.mem_cons_self
      have h2 := ih fun x hx => h x (List.mem_cons_of_mem _ hx)
      show (lcSt T C tg cs e own (Datum.toD y) (wipeE env1 own)).bind _ = _
      rw [h1]
      show (lcLoop (lcSt T C tg cs e own) (ys.map Datum.toD) (wipeE env1 own)).map _ = _
      rw [h2]
      cases hp : p y <;> simp [hp]
  rw [ev_lc, hi]
  show (if ownFree env1 own then (lcLoop (lcSt T C tg cs e own) (xs.map Datum.toD) (wipeE env1 own)).bind _ else none) = _
  rw [if_pos hf, key xs hs]
  show (mkL (((xs.filter p).map g).map Datum.toD)).map _ = _
  rw [mkL_map _ (by rw [List.length_map]; exact Nat.le_trans (List.length_filter_le _ _) hl)]
  rfl
theorem lc_M {tg : Ct} {it : Ci} {cs : Ces} {e : Ce} {own : List Nat} {xs : List α} {g : α → β}
    (hi : evalI T C it env = some (xs.map Datum.toD, env1)) (hf : ownFree env1 own = true) (hl : xs.length ≤ SL)
    (hs : ∀ x ∈ xs, lcSt T C tg cs e own (Datum.toD x) (wipeE env1 own) = some (some (Datum.toD (g x)), wipeE env1 own)) :
    evalE T C (.lc tg it cs e own) env = some (.ow (Datum.toD (xs.map g)), unwipe (wipeE env1 own) env1 own) := by
  have := lc_F (p := fun _ => true) (g := g) hi hf hl (by simpa using hs)
  rw [List.filter_eq_self.mpr (fun _ _ => rfl)] at this
  exact this
/-- the filtered things themselves -/
theorem lc_S {tg : Ct} {it : Ci} {cs : Ces} {e : Ce} {own : List Nat} {xs : List α} {p : α → Bool}
    (hi : evalI T C it env = some (xs.map Datum.toD, env1)) (hf : ownFree env1 own = true) (hl : xs.length ≤ SL)
    (hs : ∀ x ∈ xs, lcSt T C tg cs e own (Datum.toD x) (wipeE env1 own) = some (if p x then some (Datum.toD x) else none, wipeE env1 own)) :
    evalE T C (.lc tg it cs e own) env = some (.ow (Datum.toD (xs.filter p)), unwipe (wipeE env1 own) env1 own) := by
  have := lc_F (p := p) (g := fun x => x) hi hf hl hs
  rw [List.map_id'] at this
  exact this
theorem lc2_M {tg : Ct} {it : Ci} {cs : Ces} {tg1 : Ct} {it1 : Ci} {cs1 : Ces} {e : Ce} {own own1 : List Nat} {xs : List α} {g : α → List β}
    (hi : evalI T C it env = some (xs.map Datum.toD, env1)) (hf : ownFree env1 own = true) (hl : (xs.flatMap g).length ≤ SL)
    (hs : ∀ x ∈ xs, lc2St T C tg cs tg1 it1 cs1 e own own1 (Datum.toD x) (wipeE env1 own) = some ((g x).map Datum.toD, wipeE env1 own)) :
    evalE T C (.lc2 tg it cs tg1 it1 cs1 e own own1) env = some (.ow (Datum.toD (xs.flatMap g)), unwipe (wipeE env1 own) env1 own) := by
  have key : ∀ ys : List α, (∀ x ∈ ys, lc2St T C tg cs tg1 it1 cs1 e own own1 (Datum.toD x) (wipeE env1 own) = some ((g x).map Datum.toD, wipeE env1 own)) → lcLoop2 (lc2St T C tg cs tg1 it1 cs1 e own own1) (ys.map Datum.toD) (wipeE env1 own) = some ((ys.flatMap g).map Datum.toD, wipeE env1 own) := by
    intro ys
    induction ys with
    | nil => intro _; rfl
    | cons y ys ih =>
      intro h
      have h1 := h y List.mem_cons_self
      have h2 := ih fun x hx => h x (List.mem_cons_of_mem _ hx)
      show (lc2St T C tg cs tg1 it1 cs1 e own own1 (Datum.toD y) (wipeE env1 own)).bind _ = _
      rw [h1]
      show (lcLoop2 (lc2St T C tg cs tg1 it1 cs1 e own own1) (ys.map Datum.toD) (wipeE env1 own)).map _ = _
      rw [h2, List.flatMap_cons, List.map_append]
      rfl
  rw [ev_lc2, hi]
  show (if ownFree env1 own then (lcLoop2 (lc2St T C tg cs tg1 it1 cs1 e own own1) (xs.map Datum.toD) (wipeE env1 own)).bind _ else none) = _
  rw [if_pos hf, key xs hs]
  show (mkL ((xs.flatMap g).map Datum.toD)).map _ = _
  rw [mkL_map _ hl]
  rfl
theorem lcLoop_M {step : D → En → Option (Option D × En)} {xs : List α} {g : α → β} (hs : ∀ x ∈ xs, step (Datum.toD x) env = some (some (Datum.toD (g x)), env)) : lcLoop step (xs.map Datum.toD) env = some ((xs.map g).map Datum.toD, env) := by
  induction xs with
  | nil => rfl
  | cons y ys ih =>
    have h1 := hs y List.mem_cons_self
    have h2 := ih fun x hx => hs x (List.mem_cons_of_mem _ hx)
    show (step (Datum.toD y) env).bind _ = _
    rw [h1]
    show (lcLoop step (ys.map Datum.toD) env).map _ = _
    rw [h2]
    rfl
/-! ### dicts -/
/-- what may be a key -/
class Key (α : Type) [DecidableEq α] [Datum α] : Prop where
  key : ∀ a : α, keyable (Datum.toD a) = true
@[simp] theorem keyable_toD [Key α] (a : α) : keyable (Datum.toD a) = true := Key.key a
def dD (kvs : List (α × β)) : D := .dict (kvs.map fun p => (Datum.toD p.1, Datum.toD p.2))
def tlook {β : Type} (kvs : List (α × β)) (k : α) : Option β := (kvs.find? fun p => decide (p.1 = k)).map (·.2)
def thas {β : Type} (kvs : List (α × β)) (k : α) : Bool := kvs.any fun p => decide (p.1 = k)
def tput {β : Type} (kvs : List (α × β)) (k : α) (v : β) : List (α × β) := if thas kvs k then kvs.map fun p => if p.1 = k then (p.1, v) else p else kvs ++ [(k, v)]
def tdrop {β : Type} (kvs : List (α × β)) (k : α) : List (α × β) := kvs.filter fun p => !decide (p.1 = k)
theorem dD_nil : (PyData.dict [] : D) = dD ([] : List (α × β)) := (rfl)
theorem dlook_map (kvs : List (α × β)) (k : α) : dlook (kvs.map fun p => (Datum.toD p.1, Datum.toD p.2)) (Datum.toD k) = (tlook kvs k).map Datum.toD := by
  unfold dlook tlook
  rw [List.find?_map, Option.map_map, Option.map_map]
  congr 1
  congr 1
  funext p
  exact eqv_toD p.1 k
theorem dhas_map (kvs : List (α × β)) (k : α) : dhas (kvs.map fun p => (Datum.toD p.1, Datum.toD p.2)) (Datum.toD k) = thas kvs k := by
  unfold dhas thas
  rw [List.any_map]
  congr 1
  funext p
  exact eqv_toD p.1 k
theorem dput_map (kvs : List (α × β)) (k : α) (v : β) : dput (kvs.map fun p => (Datum.toD p.1, Datum.toD p.2)) (Datum.toD k) (Datum.toD v) = (tput kvs k v).map fun p => (Datum.toD p.1, Datum.toD p.2) := by
  unfold dput tput
  rw [dhas_map]
  cases thas kvs k with
  | true =>
    rw [if_pos rfl, if_pos rfl, List.map_map, List.map_map]
    congr 1
    funext p
    show (if PyData.eqv (Datum.toD p.1) (Datum.toD k) = true then _ else _) = _
    rw [eqv_toD]
    by_cases h : p.1 = k
    · simp [h]
    · simp [h]
  | false =>
    rw [if_neg (by simp), if_neg (by simp), List.map_append]
    rfl
theorem ddrop_map (kvs : List (α × β)) (k : α) : ddrop (kvs.map fun p => (Datum.toD p.1, Datum.toD p.2)) (Datum.toD k) = (tdrop kvs k).map fun p => (Datum.toD p.1, Datum.toD p.2) := by
  unfold ddrop tdrop
  rw [List.filter_map]
  congr 1
  congr 1
  funext p
  show (!PyData.eqv (Datum.toD p.1) (Datum.toD k)) = _
  rw [eqv_toD]
/-- pairs put one behind the other -/
def tmerge {β : Type} (kvs : List (α × β)) : List (α × β) → List (α × β)
  | [] => kvs
  | (k, v) :: r => tmerge (tput kvs k v) r
theorem dmerge_map : ∀ (more kvs : List (α × β)), dmerge (kvs.map fun p => (Datum.toD p.1, Datum.toD p.2)) (more.map fun p => (Datum.toD p.1, Datum.toD p.2)) = (tmerge kvs more).map fun p => (Datum.toD p.1, Datum.toD p.2)
  | [], _ => rfl
  | (k, v) :: r, kvs => by
    show dmerge (dput (kvs.map fun p => (Datum.toD p.1, Datum.toD p.2)) (Datum.toD k) (Datum.toD v)) (r.map fun p => (Datum.toD p.1, Datum.toD p.2)) = _
    rw [dput_map, dmerge_map r]
    rfl
theorem f2_in_dict [Key α] (k : α) (kvs : List (α × β)) : f2 .isin (Datum.toD k) (dD kvs) = some (Datum.toD (thas kvs k)) := by
  have e : f2 .isin (Datum.toD k) (dD kvs) = if keyable (Datum.toD k) then some (.bool (dhas (kvs.map fun p => (Datum.toD p.1, Datum.toD p.2)) (Datum.toD k))) else none := by
    unfold f2 dD; rfl
  rw [e, keyable_toD, dhas_map]; rfl
theorem f2_notin_dict [Key α] (k : α) (kvs : List (α × β)) : f2 .notin (Datum.toD k) (dD kvs) = some (Datum.toD (!thas kvs k)) := by
  have e : f2 .notin (Datum.toD k) (dD kvs) = if keyable (Datum.toD k) then some (.bool (!dhas (kvs.map fun p => (Datum.toD p.1, Datum.toD p.2)) (Datum.toD k))) else none := by
    unfold f2 dD; rfl
  rw [e, keyable_toD, dhas_map]; rfl
theorem f2_ix_dict [Key α] (k : α) (kvs : List (α × β)) : f2 .ix (dD kvs) (Datum.toD k) = (tlook kvs k).map Datum.toD := by
  have e : f2 .ix (dD kvs) (Datum.toD k) = if keyable (Datum.toD k) then dlook (kvs.map fun p => (Datum.toD p.1, Datum.toD p.2)) (Datum.toD k) else none := by
    unfold f2 dD; rfl
  rw [e, keyable_toD, dlook_map]; rfl
theorem f3_get [Key α] (k : α) (d : β) (kvs : List (α × β)) (hm : isMutD (Datum.toD d) = false) : f3 .get (dD kvs) (Datum.toD k) (Datum.toD d) = some (Datum.toD ((tlook kvs k).getD d)) := by
  have e : f3 .get (dD kvs) (Datum.toD k) (Datum.toD d) = if keyable (Datum.toD k) && !isMutD (Datum.toD d) then some ((dlook (kvs.map fun p => (Datum.toD p.1, Datum.toD p.2)) (Datum.toD k)).getD (Datum.toD d)) else none := by
    unfold f3 dD; rfl
  rw [e, keyable_toD, hm, dlook_map]
  cases tlook kvs k <;> rfl
theorem pre2_get (kvs : List (α × β)) : pre2 .get (some (dD kvs)) = some () := (rfl)
theorem pre3_get (kvs : List (α × β)) : pre3 .get (some (dD kvs)) = some () := (rfl)
theorem preM_popK (kvs : List (α × β)) : preM .popK (some (.ow (dD kvs))) = some () := (rfl)
theorem preM_update (kvs : List (α × β)) : preM .update (some (.ow (dD kvs))) = some () := (rfl)
theorem fM_set [Key α] (kvs : List (α × β)) (k : α) (v : β) (h : kvs.length < SL) : fM .set (dD kvs) [Datum.toD v, Datum.toD k] = some (dD (tput kvs k v), .none) := by
  have e : fM .set (dD kvs) [Datum.toD v, Datum.toD k] = if noDict (Datum.toD v) && keyable (Datum.toD k) && decide ((kvs.map fun p => ((Datum.toD p.1 : D), (Datum.toD p.2 : D))).length < SL) then some (.dict (dput (kvs.map fun p => (Datum.toD p.1, Datum.toD p.2)) (Datum.toD k) (Datum.toD v)), .none) else none := by
    unfold fM dD; rfl
  rw [e, noDict_toD, keyable_toD, List.length_map, decide_eq_true h, dput_map]; rfl
theorem fM_addI [Key α] (kvs : List (α × Int)) (k : α) (j i : Int) (h : kvs.length < SL) (hk : tlook kvs k = some i) : fM .addI (dD kvs) [Datum.toD k, Datum.toD j] = some (dD (tput kvs k (i + j)), .none) := by
  have e : fM .addI (dD kvs) [Datum.toD k, .int j] = if keyable (Datum.toD k) && decide ((kvs.map fun p => ((Datum.toD p.1 : D), (Datum.toD p.2 : D))).length < SL) then (match dlook (kvs.map fun p => (Datum.toD p.1, Datum.toD p.2)) (Datum.toD k) with | some (.int i) => some (.dict (dput (kvs.map fun p => (Datum.toD p.1, Datum.toD p.2)) (Datum.toD k) (.int (i + j))), .none) | _ => none) else none := by
    unfold fM dD; rfl
  show fM .addI (dD kvs) [Datum.toD k, .int j] = _
  rw [e, keyable_toD, List.length_map, decide_eq_true h, dlook_map, hk]
  show some (PyData.dict (dput (kvs.map fun p => (Datum.toD p.1, Datum.toD p.2)) (Datum.toD k) (Datum.toD (i + j))), PyData.none) = _
  rw [dput_map]; rfl
theorem fM_popK [Key α] (kvs : List (α × β)) (k : α) : fM .popK (dD kvs) [Datum.toD k] = (tlook kvs k).map fun v => (dD (tdrop kvs k), Datum.toD v) := by
  have e : fM .popK (dD kvs) [Datum.toD k] = if keyable (Datum.toD k) then (dlook (kvs.map fun p => (Datum.toD p.1, Datum.toD p.2)) (Datum.toD k)).map fun v => (.dict (ddrop (kvs.map fun p => (Datum.toD p.1, Datum.toD p.2)) (Datum.toD k)), v) else none := by
    unfold fM dD; rfl
  rw [e, keyable_toD, dlook_map, ddrop_map, if_pos rfl, Option.map_map]
  rfl
theorem fM_update (kvs more : List (α × β)) (h0 : kvs ≠ []) (h : kvs.length + more.length ≤ SL) : fM .update (dD kvs) [dD more] = some (dD (tmerge kvs more), .none) := by
  have e : fM .update (dD kvs) [dD more] = if !(kvs.map fun p => ((Datum.toD p.1 : D), (Datum.toD p.2 : D))).isEmpty && decide ((kvs.map fun p => ((Datum.toD p.1 : D), (Datum.toD p.2 : D))).length + (more.map fun p => ((Datum.toD p.1 : D), (Datum.toD p.2 : D))).length ≤ SL) then some (.dict (dmerge (kvs.map fun p => (Datum.toD p.1, Datum.toD p.2)) (more.map fun p => (Datum.toD p.1, Datum.toD p.2))), .none) else none := by
    unfold fM dD; rfl
  rw [e, List.length_map, List.length_map, decide_eq_true h, dmerge_map]
  cases kvs with
  | nil => exact absurd rfl h0
  | cons _ _ => rfl
@[simp] theorem itemsOf_dD (kvs : List (α × β)) : itemsOf (dD kvs) = some ((kvs.map (·.1)).map Datum.toD) := by
  show some ((kvs.map fun p => ((Datum.toD p.1 : D), (Datum.toD p.2 : D))).map (·.1)) = _
  rw [List.map_map, List.map_map]; rfl
@[simp] theorem isStrD_dD (kvs : List (α × β)) : isStrD (dD kvs) = false := (rfl)
@[simp] theorem f1_len_dD (kvs : List (α × β)) : f1 .len (dD kvs) = some (Datum.toD (kvs.length : Int)) := by
  show some (PyData.int ((kvs.map fun p => ((Datum.toD p.1 : D), (Datum.toD p.2 : D))).length : Int)) = _
  rw [List.length_map]; rfl
theorem pairsOf_map [Key α] : ∀ xs : List (α × β), pairsOf (xs.map Datum.toD) = some (xs.map fun p => (Datum.toD p.1, Datum.toD p.2))
  | [] => rfl
  | (a, b) :: r => by
    show (if keyable (Datum.toD a) then (pairsOf (r.map Datum.toD)).map ((Datum.toD a, Datum.toD b) :: ·) else none) = _
    rw [keyable_toD, pairsOf_map r]; rfl
theorem f1_dct [Key α] (xs : List (α × β)) : f1 .dct (Datum.toD xs) = some (dD (tmerge [] xs)) := by
  show (pairsOf (xs.map Datum.toD)).map (fun kvs => PyData.dict (dmerge [] kvs)) = _
  rw [pairsOf_map]
  show some (PyData.dict (dmerge (([] : List (α × β)).map fun p => (Datum.toD p.1, Datum.toD p.2)) _)) = _
  rw [dmerge_map]; rfl
/-- what a dict comprehension makes -/
def tgather {γ δ : Type} [DecidableEq γ] {α : Type} (p : α → Bool) (k : α → γ) (v : α → δ) (xs : List α) (acc : List (γ × δ)) : List (γ × δ) := xs.foldl (fun acc x => if p x then tput acc (k x) (v x) else acc) acc
theorem tput_length {β : Type} (kvs : List (α × β)) (k : α) (v : β) : (tput kvs k v).length ≤ kvs.length + 1 := by
  unfold tput
  split <;> simp
theorem dc_M [DecidableEq γ] [Datum γ] [Key γ] [DecidableEq δ] [Datum δ] {tg : Ct} {it : Ci} {cs : Ces} {k v : Ce} {own : List Nat} {xs : List α} {p : α → Bool} {g : α → γ} {w : α → δ}
    (hi : evalI T C it env = some (xs.map Datum.toD, env1)) (hf : ownFree env1 own = true) (hl : xs.length < SL)
    (hs : ∀ x ∈ xs, dcSt T C tg cs k v own (Datum.toD x) (wipeE env1 own) = some (if p x then some (Datum.toD (g x), Datum.toD (w x)) else none, wipeE env1 own)) :
    evalE T C (.dc tg it cs k v own) env = some (.ow (dD (tgather p g w xs [])), unwipe (wipeE env1 own) env1 own) := by
  have key : ∀ (ys : List α) (acc : List (γ × δ)), (∀ x ∈ ys, dcSt T C tg cs k v own (Datum.toD x) (wipeE env1 own) = some (if p x then some (Datum.toD (g x), Datum.toD (w x)) else none, wipeE env1 own)) → dcLoop (dcSt T C tg cs k v own) (ys.map Datum.toD) (wipeE env1 own) (acc.map fun q => (Datum.toD q.1, Datum.toD q.2)) = some ((tgather p g w ys acc).map fun q => (Datum.toD q.1, Datum.toD q.2), wipeE env1 own) := by
    intro ys
    induction ys with
    | nil => intro _ _; rfl
    | cons y ys ih =>
      intro acc h
      have h1 := h y List.mem_cons_self
      have h2 := fun acc => ih acc fun x hx => h x (List.mem_cons_of_mem _ hx)
      show (dcSt T C tg cs k v own (Datum.toD y) (wipeE env1 own)).bind _ = _
      rw [h1]
      unfold tgather
      rw [List.foldl_cons]
      cases hp : p y with
      | true =>
        show dcLoop (dcSt T C tg cs k v own) (ys.map Datum.toD) (wipeE env1 own) (dput (acc.map fun q => (Datum.toD q.1, Datum.toD q.2)) (Datum.toD (g y)) (Datum.toD (w y))) = _
        rw [dput_map, h2]; rfl
      | false =>
        show dcLoop (dcSt T C tg cs k v own) (ys.map Datum.toD) (wipeE env1 own) (acc.map fun q => (Datum.toD q.1, Datum.toD q.2)) = _
        rw [h2]; rfl
  have len : ∀ (ys : List α) (acc : List (γ × δ)), (tgather p g w ys acc).length ≤ acc.length + ys.length := by
    intro ys
    induction ys with
    | nil => intro acc; exact Nat.le_refl _
    | cons y ys ih =>
      intro acc
      unfold tgather
      rw [List.foldl_cons]
      refine Nat.le_trans (ih _) ?_
      split
      · have := tput_length acc (g y) (w y)
        simp only [List.length_cons]; omega
      · simp only [List.length_cons]; omega
  rw [ev_dc, hi]
  show (if ownFree env1 own then (dcLoop (dcSt T C tg cs k v own) (xs.map Datum.toD) (wipeE env1 own) (([] : List (γ × δ)).map fun q => (Datum.toD q.1, Datum.toD q.2))).bind _ else none) = _
  rw [if_pos hf, key xs [] hs]
  show (if ((tgather p g w xs []).map fun q => ((Datum.toD q.1 : D), (Datum.toD q.2 : D))).length < SL then _ else none) = _
  rw [List.length_map, if_pos (Nat.lt_of_le_of_lt (len xs []) (by simpa using hl))]
  rfl
/-! ### for and while -/
theorem forLoop_T {body : En → Option (Oc × En)} {tg : Ct} {S : σ → J → En} {f : σ → α → σ} (I : List α → σ → Prop)
    (h : ∀ (x : α) (xs : List α) (s : σ) (j : J), I (x :: xs) s → I xs (f s x) ∧ ∃ j', (bindT (S s j) tg (Datum.toD x)).bind body = some (.nx, S (f s x) j')) :
    ∀ (xs : List α) (s : σ) (j : J), I xs s → I [] (xs.foldl f s) ∧ ∃ j', forLoop body tg (xs.map Datum.toD) (S s j) = some (.nx, S (xs.foldl f s) j')
  | [], s, j, hi => ⟨hi, j, rfl⟩
  | x :: xs, s, j, hi => by
    obtain ⟨h1, j1, h2⟩ := h x xs s j hi
    obtain ⟨h3, j2, h4⟩ := forLoop_T I h xs (f s x) j1 h1
    refine ⟨h3, j2, ?_⟩
    show (bindT (S s j) tg (Datum.toD x)).bind (fun env => (body env).bind fun p => match p.1 with
      | .nx => forLoop body tg (xs.map Datum.toD) p.2
      | .rt s => some (.rt s, p.2)) = _
    cases hb : bindT (S s j) tg (Datum.toD x) with
    | none => rw [hb] at h2; cases h2
    | some e =>
      rw [hb] at h2
      have h2 : body e = some (.nx, S (f s x) j1) := h2
      show (body e).bind _ = _
      rw [h2]
      exact h4
/-- a loop that only looks: it ends early with v at the first thing that is not as it should be -/
theorem forLoop_all {body : En → Option (Oc × En)} {tg : Ct} {S : J → En} {p : α → Bool} {v : Sl} : ∀ {xs : List α} (j : J),
    (∀ x ∈ xs, ∀ j, ∃ j', (bindT (S j) tg (Datum.toD x)).bind body = some (if p x then .nx else .rt v, S j')) → ∃ j', forLoop body tg (xs.map Datum.toD) (S j) = some (if xs.all p then .nx else .rt v, S j')
  | [], j, _ => ⟨j, rfl⟩
  | x :: xs, j, h => by
    obtain ⟨j1, h1⟩ := h x List.mem_cons_self j
    obtain ⟨j2, h2⟩ := forLoop_all (xs := xs) j1 fun y hy => h y (List.mem_cons_of_mem _ hy)
    have e : ∀ o, (bindT (S j) tg (Datum.toD x)).bind body = o → forLoop body tg ((x :: xs).map Datum.toD) (S j) = o.bind fun p => match p.1 with
      | .nx => forLoop body tg (xs.map Datum.toD) p.2
      | .rt s => some (.rt s, p.2) := by
      intro o ho
      rw [← ho]
      show (bindT (S j) tg (Datum.toD x)).bind (fun env => (body env).bind fun p => match p.1 with
        | .nx => forLoop body tg (xs.map Datum.toD) p.2
        | .rt s => some (.rt s, p.2)) = _
      rw [Option.bind_assoc]
    rw [e _ h1]
    cases hp : p x with
    | true =>
      refine ⟨j2, ?_⟩
      show forLoop body tg (xs.map Datum.toD) (S j1) = _
      rw [h2, List.all_cons, hp]; rfl
    | false =>
      refine ⟨j1, ?_⟩
      show some (Oc.rt v, S j1) = _
      rw [List.all_cons, hp]; rfl
theorem whl_T {test : En → Option (Bool × En)} {body : En → Option (Oc × En)} {S : σ → J → En} (I : σ → Prop) (μ : σ → Nat) (c : σ → Bool)
    (ht : ∀ s j, I s → test (S s j) = some (c s, S s j))
    (hb : ∀ s j, I s → c s = true → ∃ s' j', body (S s j) = some (.nx, S s' j') ∧ I s' ∧ μ s' < μ s) :
    ∀ (n : Nat) (s : σ) (j : J), I s → μ s < n → ∃ s' j', whlLoop test body n (S s j) = some (.nx, S s' j') ∧ I s' ∧ c s' = false
  | 0, s, j, _, h => absurd h (Nat.not_lt_zero _)
  | n + 1, s, j, hi, h => by
    have e : whlLoop test body (n + 1) (S s j) = (test (S s j)).bind fun c => if c.1 then (body c.2).bind fun p => match p.1 with
      | .nx => whlLoop test body n p.2
      | .rt s => some (.rt s, p.2)
    else some (.nx, c.2) := rfl
    rw [e, ht s j hi]
    cases hc : c s with
    | false => exact ⟨s, j, rfl, hi, hc⟩
    | true =>
      obtain ⟨s1, j1, h1, h2, h3⟩ := hb s j hi hc
      obtain ⟨s2, j2, h4, h5, h6⟩ := whl_T I μ c ht hb n s1 j1 h2 (by omega)
      refine ⟨s2, j2, ?_, h5, h6⟩
      show (body (S s j)).bind _ = _
      rw [h1]
      exact h4
end
/-! ### sorting, least, greatest -/
section
variable {α β : Type} [DecidableEq α] [DatumOrd α] [DecidableEq β] [DatumOrd β]
theorem lt_irrefl (a : α) : DatumOrd.lt a a = false := by rw [← DatumOrd.lt_eq]; exact dataLt_self _
theorem lt_trans {a b c : α} (h1 : DatumOrd.lt a b = true) (h2 : DatumOrd.lt b c = true) : DatumOrd.lt a c = true := by
  rw [← DatumOrd.lt_eq] at *
  exact PyProof.Rows.lex_trans (O := PyProof.Rows.itemOrd) _ _ _ h1 h2
theorem lt_total {a b : α} (h1 : DatumOrd.lt a b = false) (h2 : DatumOrd.lt b a = false) : a = b := by
  rw [← DatumOrd.lt_eq] at h1 h2
  have e := PyProof.Rows.lex_total (O := PyProof.Rows.itemOrd) _ _ h1 h2
  have hq := (toks_eqv (Datum.toD a) (Datum.toD b) (DatumOrd.alike a b)).2
  cases hh : PyData.eqv (Datum.toD a) (Datum.toD b) with
  | true => rw [Datum.eqv, decide_eq_true_eq] at hh; exact hh
  | false =>
    have h3 := hq hh [] [Sum.inl 0]
    rw [List.append_nil, e] at h3
    have h4 : PyProof.Rows.lexLt PyProof.Rows.itemOrd (keyToks (Datum.toD b)) (keyToks (Datum.toD b)) = false := PyProof.Rows.lex_irrefl (O := PyProof.Rows.itemOrd) _
    have h5 : ∀ l : List (Int ⊕ List Nat), PyProof.Rows.lexLt PyProof.Rows.itemOrd l (l ++ [Sum.inl 0]) = true := by
      intro l
      induction l with
      | nil => rfl
      | cons x r ih => rw [List.cons_append, PyProof.Rows.lex_self (O := PyProof.Rows.itemOrd)]; exact ih
    rw [h4] at h3
    rw [h5] at h3
    cases h3
theorem lt_asymm {a b : α} (h1 : DatumOrd.lt a b = true) : DatumOrd.lt b a = false := by
  cases h : DatumOrd.lt b a with
  | false => rfl
  | true => have := lt_trans h1 h; rw [lt_irrefl] at this; cases this
def leT (a b : α) : Bool := !DatumOrd.lt b a
def sortT (xs : List α) : List α := xs.mergeSort leT
theorem leT_trans {a b c : α} (h1 : leT a b = true) (h2 : leT b c = true) : leT a c = true := by
  unfold leT at *
  rw [Bool.not_eq_true'] at *
  cases h : DatumOrd.lt c a with
  | false => rfl
  | true =>
    cases hab : DatumOrd.lt a b with
    | true => have := lt_trans h hab; rw [h2] at this; cases this
    | false =>
      have e := lt_total hab h1
      subst e
      rw [h2] at h; cases h
theorem leT_total (a b : α) : (leT a b || leT b a) = true := by
  unfold leT
  cases h1 : DatumOrd.lt b a with
  | false => rfl
  | true => rw [lt_asymm h1]; rfl
theorem leT_antisymm {a b : α} (h1 : leT a b = true) (h2 : leT b a = true) : a = b := by
  unfold leT at *
  rw [Bool.not_eq_true'] at *
  exact lt_total h2 h1
theorem sortT_perm (xs : List α) : (sortT xs).Perm xs := List.mergeSort_perm xs leT
theorem sortT_sorted (xs : List α) : (sortT xs).Pairwise fun a b => leT a b = true := List.pairwise_mergeSort (le := leT) (fun _ _ _ => leT_trans) leT_total xs
/-- in order, without doubles -/
def Rising (xs : List α) : Prop := xs.Pairwise fun a b => DatumOrd.lt a b = true
theorem sorted_unique {xs ys : List α} (hp : xs.Perm ys) (hx : xs.Pairwise fun a b => leT a b = true) (hy : ys.Pairwise fun a b => leT a b = true) : xs = ys :=
  hp.eq_of_pairwise (fun _ _ _ _ h1 h2 => leT_antisymm h1 h2) hx hy
theorem Rising.le {xs : List α} (h : Rising xs) : xs.Pairwise fun a b => leT a b = true := h.imp fun {a b} hab => by
  unfold leT; rw [lt_asymm hab]; rfl
theorem sortT_of_rising {xs : List α} (h : Rising xs) : sortT xs = xs := sorted_unique (sortT_perm xs) (sortT_sorted xs) h.le
theorem sortT_of_perm {xs ys : List α} (h : xs.Perm ys) : sortT xs = sortT ys := sorted_unique ((sortT_perm xs).trans (h.trans (sortT_perm ys).symm)) (sortT_sorted xs) (sortT_sorted ys)
theorem Rising.nodup {xs : List α} (h : Rising xs) : xs.Nodup := h.imp fun {a b} hab => by
  rintro rfl; rw [lt_irrefl] at hab; cases hab
theorem rising_sortT {xs : List α} (h : xs.Nodup) : Rising (sortT xs) := by
  have h1 := sortT_sorted xs
  have h2 : (sortT xs).Nodup := (sortT_perm xs).nodup_iff.mpr h
  refine (h1.and h2).imp ?_
  rintro a b ⟨hle, hne⟩
  unfold leT at hle
  rw [Bool.not_eq_true'] at hle
  cases h : DatumOrd.lt a b with
  | true => rfl
  | false => exact absurd (lt_total h hle) hne
theorem rising_ext {xs ys : List α} (hx : Rising xs) (hy : Rising ys) (h : ∀ a, a ∈ xs ↔ a ∈ ys) : xs = ys :=
  sorted_unique ((List.perm_ext_iff_of_nodup hx.nodup hy.nodup).mpr h) hx.le hy.le
theorem mem_sortT {xs : List α} {a : α} : a ∈ sortT xs ↔ a ∈ xs := (sortT_perm xs).mem_iff
theorem length_sortT (xs : List α) : (sortT xs).length = xs.length := (sortT_perm xs).length_eq
theorem allAlike_map : ∀ xs : List α, allAlike (xs.map Datum.toD) = true
  | [] => rfl
  | x :: r => by
    show (alike _ _ && (r.map Datum.toD).all (alike _) && (r.map Datum.toD).all (fun y => alike y _) && allAlike (r.map Datum.toD)) = true
    rw [allAlike_map r, DatumOrd.alike]
    simp [DatumOrd.alike]
theorem all_dok (xs : List α) (h : Datum.depth α ≤ 64) : (xs.map Datum.toD).all dok = true := by
  simp [List.all_map]; intro a _; exact dok_toD a h
theorem sortD_map (xs : List α) : sortD (xs.map Datum.toD) = (sortT xs).map Datum.toD := by
  unfold sortD sortT
  refine (List.map_mergeSort ?_).symm
  intro a _ b _
  rw [dataLe_eq]
  unfold leT
  rw [← DatumOrd.lt_eq]; rfl
/-- what sorts: all tuples with things in them, or nothing that is a tuple -/
class SortK (α : Type) [DecidableEq α] [Datum α] : Prop where
  k : ∀ xs : List α, ((xs.map Datum.toD).all isTup1 || (xs.map Datum.toD).all notTN) = true
instance : SortK Int := ⟨fun xs => by rw [Bool.or_eq_true]; right; simp [List.all_map]; intro _ _; rfl⟩
instance : SortK Str := ⟨fun xs => by rw [Bool.or_eq_true]; right; simp [List.all_map]; intro _ _; rfl⟩
instance {α β γ : Type} [DecidableEq α] [Datum α] [DecidableEq β] [Datum β] [DecidableEq γ] [Datum γ] : SortK (T3 α β γ) := ⟨fun xs => by rw [Bool.or_eq_true]; left; simp [List.all_map]; intro _ _; rfl⟩
instance {α β : Type} [DecidableEq α] [Datum α] [DecidableEq β] [Datum β] : SortK (α × β) := ⟨fun xs => by rw [Bool.or_eq_true]; left; simp [List.all_map]; intro _ _ _; rfl⟩
theorem f1_sorted_of (d : D) (xs : List α) (hd : seqOf d = some (xs.map Datum.toD)) (hk : ((xs.map Datum.toD).all isTup1 || (xs.map Datum.toD).all notTN) = true) (h : Datum.depth α ≤ 64) (hl : xs.length ≤ SL) : f1 .sorted d = some (Datum.toD (sortT xs)) := by
  have e : f1 .sorted d = (seqOf d).bind fun xs => if sortable xs then some (.list (sortD xs)) else none := by cases d <;> rfl
  rw [e, hd]
  show (if sortable (xs.map Datum.toD) then some (PyData.list (sortD (xs.map Datum.toD))) else none) = _
  have hs : sortable (xs.map Datum.toD) = true := by
    unfold sortable
    rw [allAlike_map, hk, all_dok xs h, List.length_map, decide_eq_true hl]; rfl
  rw [hs, sortD_map]; rfl
theorem f1_sorted_list [SortK α] (xs : List α) (h : Datum.depth α ≤ 64) (hl : xs.length ≤ SL) : f1 .sorted (Datum.toD xs) = some (Datum.toD (sortT xs)) := f1_sorted_of _ xs rfl (SortK.k xs) h hl
theorem f1_sorted_tup [SortK α] (xs : List α) (h : Datum.depth α ≤ 64) (hl : xs.length ≤ SL) : f1 .sorted (Datum.toD (Tup.mk xs)) = some (Datum.toD (sortT xs)) := f1_sorted_of _ xs rfl (SortK.k xs) h hl
theorem f1_sorted_dict {β : Type} [DecidableEq β] [Datum β] [SortK α] (kvs : List (α × β)) (h : Datum.depth α ≤ 64) (hl : kvs.length ≤ SL) : f1 .sorted (dD kvs) = some (Datum.toD (sortT (kvs.map (·.1)))) := by
  refine f1_sorted_of _ (kvs.map (·.1)) ?_ (SortK.k _) h (by rw [List.length_map]; exact hl)
  show some ((kvs.map fun p => ((Datum.toD p.1 : D), (Datum.toD p.2 : D))).map (·.1)) = _
  rw [List.map_map, List.map_map]; rfl
theorem f1_sorted_tups (xs : List (Tup α)) (hn : ∀ x ∈ xs, x.items ≠ []) (h : Datum.depth α ≤ 63) (hl : xs.length ≤ SL) : f1 .sorted (Datum.toD xs) = some (Datum.toD (sortT xs)) := by
  refine f1_sorted_of _ xs rfl ?_ (by show Datum.depth α + 1 ≤ 64; omega) hl
  rw [Bool.or_eq_true]; left
  simp only [List.all_map, List.all_eq_true]
  intro x hx
  have := hn x hx
  rcases x with ⟨_ | ⟨a, r⟩⟩
  · exact absurd rfl this
  · rfl
theorem notNone_toD (a : α) : notNone (Datum.toD a) = true := by
  have := DatumOrd.notNone a
  unfold notNone
  split
  · rename_i e; exact absurd e this
  · rfl
theorem least_map (x : α) (xs : List α) (h : Datum.depth α ≤ 64) : least ((x :: xs).map Datum.toD) = some (Datum.toD (minOf x xs)) := by
  show (if allAlike ((x :: xs).map Datum.toD) && ((x :: xs).map Datum.toD).all notNone && ((x :: xs).map Datum.toD).all dok then some (minD _ _) else none) = _
  rw [allAlike_map, all_dok _ h]
  have : ((x :: xs).map (Datum.toD (α := α))).all notNone = true := by simp only [List.all_map, List.all_eq_true]; intro a _; exact notNone_toD a
  rw [this]
  show some (minD (Datum.toD x) (xs.map Datum.toD)) = _
  rw [minD_map]
theorem greatest_map (x : α) (xs : List α) (h : Datum.depth α ≤ 64) : greatest ((x :: xs).map Datum.toD) = some (Datum.toD (maxOf x xs)) := by
  show (if allAlike ((x :: xs).map Datum.toD) && ((x :: xs).map Datum.toD).all notNone && ((x :: xs).map Datum.toD).all dok then some (maxD _ _) else none) = _
  rw [allAlike_map, all_dok _ h]
  have : ((x :: xs).map (Datum.toD (α := α))).all notNone = true := by simp only [List.all_map, List.all_eq_true]; intro a _; exact notNone_toD a
  rw [this]
  show some (maxD (Datum.toD x) (xs.map Datum.toD)) = _
  rw [maxD_map]
theorem f1_mn_list (x : α) (xs : List α) (h : Datum.depth α ≤ 64) : f1 .mn (Datum.toD (x :: xs)) = some (Datum.toD (minOf x xs)) := least_map x xs h
theorem f1_mx_list (x : α) (xs : List α) (h : Datum.depth α ≤ 64) : f1 .mx (Datum.toD (x :: xs)) = some (Datum.toD (maxOf x xs)) := greatest_map x xs h
theorem f1_mn_tup (x : α) (xs : List α) (h : Datum.depth α ≤ 64) : f1 .mn (Datum.toD (Tup.mk (x :: xs))) = some (Datum.toD (minOf x xs)) := least_map x xs h
theorem f1_mx_tup (x : α) (xs : List α) (h : Datum.depth α ≤ 64) : f1 .mx (Datum.toD (Tup.mk (x :: xs))) = some (Datum.toD (maxOf x xs)) := greatest_map x xs h
theorem cmpOk_toD (a b : α) (h : Datum.depth α ≤ 64) : cmpOk (Datum.toD a) (Datum.toD b) = true := by
  unfold cmpOk
  rw [DatumOrd.alike, notNone_toD, dok_toD a h]; rfl
end
section
variable {α β γ : Type} [DecidableEq α] [DatumOrd α] [DecidableEq β] [DatumOrd β] [DecidableEq γ] [DatumOrd γ]
theorem f2_lt_t3 (a b : T3 α β γ) (h : Datum.depth (T3 α β γ) ≤ 64) : f2 .lt (Datum.toD a) (Datum.toD b) = some (Datum.toD (DatumOrd.lt a b)) := by
  show (if cmpOk (Datum.toD a) (Datum.toD b) then some (PyData.bool (dataLt (Datum.toD a) (Datum.toD b))) else none) = _
  rw [cmpOk_toD a b h]
  show some (PyData.bool (dataLt (Datum.toD a) (Datum.toD b))) = _
  rw [DatumOrd.lt_eq]; rfl
theorem f2_gt_t3 (a b : T3 α β γ) (h : Datum.depth (T3 α β γ) ≤ 64) : f2 .gt (Datum.toD a) (Datum.toD b) = some (Datum.toD (DatumOrd.lt b a)) := by
  show (if cmpOk (Datum.toD a) (Datum.toD b) then some (PyData.bool (dataLt (Datum.toD b) (Datum.toD a))) else none) = _
  rw [cmpOk_toD a b h]
  show some (PyData.bool (dataLt (Datum.toD b) (Datum.toD a))) = _
  rw [DatumOrd.lt_eq]; rfl
theorem f2_lt_pair (a b : α × β) (h : Datum.depth (α × β) ≤ 64) : f2 .lt (Datum.toD a) (Datum.toD b) = some (Datum.toD (DatumOrd.lt a b)) := by
  show (if cmpOk (Datum.toD a) (Datum.toD b) then some (PyData.bool (dataLt (Datum.toD a) (Datum.toD b))) else none) = _
  rw [cmpOk_toD a b h]
  show some (PyData.bool (dataLt (Datum.toD a) (Datum.toD b))) = _
  rw [DatumOrd.lt_eq]; rfl
theorem f2_gt_pair (a b : α × β) (h : Datum.depth (α × β) ≤ 64) : f2 .gt (Datum.toD a) (Datum.toD b) = some (Datum.toD (DatumOrd.lt b a)) := by
  show (if cmpOk (Datum.toD a) (Datum.toD b) then some (PyData.bool (dataLt (Datum.toD b) (Datum.toD a))) else none) = _
  rw [cmpOk_toD a b h]
  show some (PyData.bool (dataLt (Datum.toD b) (Datum.toD a))) = _
  rw [DatumOrd.lt_eq]; rfl
end
instance : Key Cell := ⟨fun _ => rfl⟩
instance : Key (Int × Int) := ⟨fun _ => rfl⟩
instance : Key (Cell × Cell) := ⟨fun _ => rfl⟩
end Ky
end

section
set_option autoImplicit false
set_option linter.all false
set_option maxRecDepth 100000
set_option Elab.async false
/-! Sizes of types; where a loop's value goes. -/
namespace Ky
open PySem PySem.W
section
variable {α β γ δ : Type} [DecidableEq α] [Datum α] [DecidableEq β] [Datum β] [DecidableEq γ] [Datum γ] [DecidableEq δ] [Datum δ]
theorem dp_int : Datum.depth Int = 0 := (rfl)
theorem dp_bool : Datum.depth Bool = 0 := (rfl)
theorem dp_str : Datum.depth Str = 0 := (rfl)
theorem dp_unit : Datum.depth Unit = 0 := (rfl)
theorem dp_list : Datum.depth (List α) = Datum.depth α + 1 := (rfl)
theorem dp_tup : Datum.depth (Tup α) = Datum.depth α + 1 := (rfl)
theorem dp_pair : Datum.depth (α × β) = max (Datum.depth α) (Datum.depth β) + 1 := (rfl)
theorem dp_t3 : Datum.depth (T3 α β γ) = max (max (Datum.depth α) (Datum.depth β)) (Datum.depth γ) + 1 := (rfl)
theorem bindT_nm (env : En) (i : Nat) (d : D) : bindT env (.nm i) d = some (env.set i (.fz d)) := (rfl)
theorem bindT_raw (env : En) (is : List Nat) (ds : List D) : bindT env (.tp is) (.tuple ds) = store env is ds := (rfl)
theorem toD_nil : (Datum.toD ([] : List α) : D) = .list [] := (rfl)
theorem tup3 (a b c : α) : (Datum.toD (Tup.mk [a, b, c]) : D) = Datum.toD (T3.mk a b c) := (rfl)
theorem tup2 (a b : α) : (Datum.toD (Tup.mk [a, b]) : D) = Datum.toD (a, b) := (rfl)
theorem tup0 : (Datum.toD (Tup.mk ([] : List α)) : D) = .tuple [] := (rfl)
theorem f2_eq_nil (xs : List α) (h : Datum.depth α ≤ 63) : f2 .eq (Datum.toD xs) (.list []) = some (Datum.toD xs.isEmpty) := by
  refine (f2_eq xs [] (by show Datum.depth α + 1 ≤ 64; omega)).trans ?_
  cases xs <;> rfl
theorem f2_ne_nil (xs : List α) (h : Datum.depth α ≤ 63) : f2 .ne (Datum.toD xs) (.list []) = some (Datum.toD (!xs.isEmpty)) := by
  refine (f2_ne xs [] (by show Datum.depth α + 1 ≤ 64; omega)).trans ?_
  cases xs <;> rfl
/-- a loop that puts things behind a list -/
theorem forLoop_app {J α β : Type} [DecidableEq α] [Datum α] {body : En → Option (Oc × En)} {tg : Ct} {S : List β → J → En} {g : α → List β} {m B : Nat} : ∀ (xs : List α) (found : List β) (j : J),
    (∀ x ∈ xs, (g x).length ≤ m) →
    (∀ x ∈ xs, ∀ (found : List β) (j : J), found.length + m ≤ B → ∃ j', (bindT (S found j) tg (Datum.toD x)).bind body = some (.nx, S (found ++ g x) j')) →
    found.length + xs.length * m ≤ B → ∃ j', forLoop body tg (xs.map Datum.toD) (S found j) = some (.nx, S (found ++ xs.flatMap g) j')
  | [], found, j, _, _, _ => ⟨j, by simp [forLoop]⟩
  | x :: xs, found, j, hg, h, hB => by
    have hx := hg x List.mem_cons_self
    rw [List.length_cons, Nat.succ_mul] at hB
    obtain ⟨j1, h1⟩ := h x List.mem_cons_self found j (by omega)
    obtain ⟨j2, h2⟩ := forLoop_app xs (found ++ g x) j1 (fun y hy => hg y (List.mem_cons_of_mem _ hy)) (fun y hy => h y (List.mem_cons_of_mem _ hy)) (by rw [List.length_append]; omega)
    refine ⟨j2, ?_⟩
    show (bindT (S found j) tg (Datum.toD x)).bind (fun env => (body env).bind fun p => match p.1 with
      | .nx => forLoop body tg (xs.map Datum.toD) p.2
      | .rt s => some (.rt s, p.2)) = _
    rw [List.flatMap_cons, ← List.append_assoc]
    cases hb : bindT (S found j) tg (Datum.toD x) with
    | none => rw [hb] at h1; cases h1
    | some e =>
      rw [hb] at h1
      have h1 : body e = some (.nx, S (found ++ g x) j1) := h1
      show (body e).bind _ = _
      rw [h1]
      exact h2
theorem length_flatMap_le {α β : Type} {g : α → List β} {m : Nat} : ∀ xs : List α, (∀ x ∈ xs, (g x).length ≤ m) → (xs.flatMap g).length ≤ xs.length * m
  | [], _ => by simp
  | x :: xs, h => by
    have h1 := h x List.mem_cons_self
    have h2 := length_flatMap_le xs fun y hy => h y (List.mem_cons_of_mem _ hy)
    rw [List.flatMap_cons, List.length_append, List.length_cons, Nat.succ_mul]; omega
theorem dat_fz (d : D) : (Sl.fz d).dat = d := (rfl)
theorem dat_ow (d : D) : (Sl.ow d).dat = d := (rfl)
theorem thaw_fz (d : D) : (Sl.fz d).thaw = .fz d := (rfl)
theorem thaw_ow (d : D) : (Sl.ow d).thaw = .fz d := (rfl)
theorem thaw_emp : Sl.emp.thaw = .emp := (rfl)
theorem get_val (env : En) (d : D) : (Wv.val d).get env = some d := (rfl)
theorem get_at (env : En) (i : Nat) : (Wv.at i).get env = pkS env[i]? := ev_peek i
def ownS : Option Sl → Option Sl
  | some (.ow d) => if isMutD d then some (.ow d) else none
  | _ => none
theorem aget_val (env : En) (d : D) : (Av.val d).get env = some (.fz d) := (rfl)
theorem aget_own (env : En) (i : Nat) : (Av.own i).get env = ownS env[i]? := by
  unfold Av.get ownS
  rfl
theorem ownS_list (xs : List α) : ownS (some (.ow (Datum.toD xs))) = some (.ow (Datum.toD xs)) := (rfl)
theorem ownS_dD (xs : List (α × β)) : ownS (some (.ow (dD xs))) = some (.ow (dD xs)) := (rfl)
theorem getIx (xs : List α) (i : Nat) : ixOf xs (i : Int) = xs[i]? := by
  unfold ixOf
  rw [if_pos (Int.natCast_nonneg i)]; rfl
theorem wipe0 (env : En) : wipeE env [] = env := (rfl)
theorem len0 : (0 : Nat) ≤ SL := by decide
theorem sl_len (h : (5 : Nat) ≤ SL) : True := trivial
end
end Ky
end

section
set_option autoImplicit false
set_option linter.all false
set_option maxRecDepth 100000
set_option Elab.async false
/-! Lists that are set, and what counts as told alike. -/
namespace Ky
open PySem PySem.W
section
variable {α β γ δ : Type} [DecidableEq α] [Datum α] [DecidableEq β] [Datum β] [DecidableEq γ] [Datum γ] [DecidableEq δ] [Datum δ]
theorem fM_setL (xs : List α) (i : Int) (v : α) : fM .set (Datum.toD xs) [Datum.toD v, Datum.toD i] = (ixPlace xs.length i).map fun j => (Datum.toD (xs.set j v), .none) := by
  have e : fM .set (Datum.toD xs) [Datum.toD v, .int i] = if noDict (Datum.toD v) then (ixPlace (xs.map (Datum.toD (α := α))).length i).map fun j => (.list ((xs.map Datum.toD).set j (Datum.toD v)), .none) else none := by
    unfold fM; rfl
  show fM .set (Datum.toD xs) [Datum.toD v, .int i] = _
  rw [e, noDict_toD, List.length_map, if_pos rfl]
  congr 1; funext j
  rw [← List.map_set]; rfl
theorem f2_pow18 : f2 .pow (Datum.toD (10 : Int)) (Datum.toD (18 : Int)) = some (Datum.toD (1000000000000000000 : Int)) := by
  show (if decide ((0 : Int) ≤ 18) && decide ((18 : Int) ≤ 1000000) && decide ((10 : Int).natAbs < 2 ^ 64) then some (PyData.int (10 ^ (18 : Int).toNat)) else none) = _
  rfl
@[simp] theorem isN_int (a : Int) : f1 .isN (Datum.toD a) = some (Datum.toD false) := (rfl)
@[simp] theorem notN_int (a : Int) : f1 .notN (Datum.toD a) = some (Datum.toD true) := (rfl)
@[simp] theorem kind_int_int (a : Int) : f1 (.isI .int) (Datum.toD a) = some (Datum.toD true) := (rfl)
@[simp] theorem kind_bool_int (a : Int) : f1 (.isI .bool) (Datum.toD a) = some (Datum.toD false) := (rfl)
@[simp] theorem kind_str_int (a : Int) : f1 (.isI .str) (Datum.toD a) = some (Datum.toD false) := (rfl)
@[simp] theorem kind_tup_int (a : Int) : f1 (.isI .tup) (Datum.toD a) = some (Datum.toD false) := (rfl)
@[simp] theorem kind_lst_int (a : Int) : f1 (.isI .lst) (Datum.toD a) = some (Datum.toD false) := (rfl)
@[simp] theorem isN_bool (a : Bool) : f1 .isN (Datum.toD a) = some (Datum.toD false) := (rfl)
@[simp] theorem notN_bool (a : Bool) : f1 .notN (Datum.toD a) = some (Datum.toD true) := (rfl)
@[simp] theorem kind_int_bool (a : Bool) : f1 (.isI .int) (Datum.toD a) = some (Datum.toD true) := (rfl)
@[simp] theorem kind_bool_bool (a : Bool) : f1 (.isI .bool) (Datum.toD a) = some (Datum.toD true) := (rfl)
@[simp] theorem kind_str_bool (a : Bool) : f1 (.isI .str) (Datum.toD a) = some (Datum.toD false) := (rfl)
@[simp] theorem kind_tup_bool (a : Bool) : f1 (.isI .tup) (Datum.toD a) = some (Datum.toD false) := (rfl)
@[simp] theorem kind_lst_bool (a : Bool) : f1 (.isI .lst) (Datum.toD a) = some (Datum.toD false) := (rfl)
@[simp] theorem isN_str (a : Str) : f1 .isN (Datum.toD a) = some (Datum.toD false) := (rfl)
@[simp] theorem notN_str (a : Str) : f1 .notN (Datum.toD a) = some (Datum.toD true) := (rfl)
@[simp] theorem kind_int_str (a : Str) : f1 (.isI .int) (Datum.toD a) = some (Datum.toD false) := (rfl)
@[simp] theorem kind_bool_str (a : Str) : f1 (.isI .bool) (Datum.toD a) = some (Datum.toD false) := (rfl)
@[simp] theorem kind_str_str (a : Str) : f1 (.isI .str) (Datum.toD a) = some (Datum.toD true) := (rfl)
@[simp] theorem kind_tup_str (a : Str) : f1 (.isI .tup) (Datum.toD a) = some (Datum.toD false) := (rfl)
@[simp] theorem kind_lst_str (a : Str) : f1 (.isI .lst) (Datum.toD a) = some (Datum.toD false) := (rfl)
@[simp] theorem isN_t3 (a : T3 α β γ) : f1 .isN (Datum.toD a) = some (Datum.toD false) := (rfl)
@[simp] theorem notN_t3 (a : T3 α β γ) : f1 .notN (Datum.toD a) = some (Datum.toD true) := (rfl)
@[simp] theorem kind_int_t3 (a : T3 α β γ) : f1 (.isI .int) (Datum.toD a) = some (Datum.toD false) := (rfl)
@[simp] theorem kind_bool_t3 (a : T3 α β γ) : f1 (.isI .bool) (Datum.toD a) = some (Datum.toD false) := (rfl)
@[simp] theorem kind_str_t3 (a : T3 α β γ) : f1 (.isI .str) (Datum.toD a) = some (Datum.toD false) := (rfl)
@[simp] theorem kind_tup_t3 (a : T3 α β γ) : f1 (.isI .tup) (Datum.toD a) = some (Datum.toD true) := (rfl)
@[simp] theorem kind_lst_t3 (a : T3 α β γ) : f1 (.isI .lst) (Datum.toD a) = some (Datum.toD false) := (rfl)
@[simp] theorem isN_t4 (a : T4 α β γ δ) : f1 .isN (Datum.toD a) = some (Datum.toD false) := (rfl)
@[simp] theorem notN_t4 (a : T4 α β γ δ) : f1 .notN (Datum.toD a) = some (Datum.toD true) := (rfl)
@[simp] theorem kind_int_t4 (a : T4 α β γ δ) : f1 (.isI .int) (Datum.toD a) = some (Datum.toD false) := (rfl)
@[simp] theorem kind_bool_t4 (a : T4 α β γ δ) : f1 (.isI .bool) (Datum.toD a) = some (Datum.toD false) := (rfl)
@[simp] theorem kind_str_t4 (a : T4 α β γ δ) : f1 (.isI .str) (Datum.toD a) = some (Datum.toD false) := (rfl)
@[simp] theorem kind_tup_t4 (a : T4 α β γ δ) : f1 (.isI .tup) (Datum.toD a) = some (Datum.toD true) := (rfl)
@[simp] theorem kind_lst_t4 (a : T4 α β γ δ) : f1 (.isI .lst) (Datum.toD a) = some (Datum.toD false) := (rfl)
@[simp] theorem isN_pair (a : α × β) : f1 .isN (Datum.toD a) = some (Datum.toD false) := (rfl)
@[simp] theorem notN_pair (a : α × β) : f1 .notN (Datum.toD a) = some (Datum.toD true) := (rfl)
@[simp] theorem kind_int_pair (a : α × β) : f1 (.isI .int) (Datum.toD a) = some (Datum.toD false) := (rfl)
@[simp] theorem kind_bool_pair (a : α × β) : f1 (.isI .bool) (Datum.toD a) = some (Datum.toD false) := (rfl)
@[simp] theorem kind_str_pair (a : α × β) : f1 (.isI .str) (Datum.toD a) = some (Datum.toD false) := (rfl)
@[simp] theorem kind_tup_pair (a : α × β) : f1 (.isI .tup) (Datum.toD a) = some (Datum.toD true) := (rfl)
@[simp] theorem kind_lst_pair (a : α × β) : f1 (.isI .lst) (Datum.toD a) = some (Datum.toD false) := (rfl)
@[simp] theorem isN_tup (a : Tup α) : f1 .isN (Datum.toD a) = some (Datum.toD false) := (rfl)
@[simp] theorem notN_tup (a : Tup α) : f1 .notN (Datum.toD a) = some (Datum.toD true) := (rfl)
@[simp] theorem kind_int_tup (a : Tup α) : f1 (.isI .int) (Datum.toD a) = some (Datum.toD false) := (rfl)
@[simp] theorem kind_bool_tup (a : Tup α) : f1 (.isI .bool) (Datum.toD a) = some (Datum.toD false) := (rfl)
@[simp] theorem kind_str_tup (a : Tup α) : f1 (.isI .str) (Datum.toD a) = some (Datum.toD false) := (rfl)
@[simp] theorem kind_tup_tup (a : Tup α) : f1 (.isI .tup) (Datum.toD a) = some (Datum.toD true) := (rfl)
@[simp] theorem kind_lst_tup (a : Tup α) : f1 (.isI .lst) (Datum.toD a) = some (Datum.toD false) := (rfl)
@[simp] theorem isN_list (a : List α) : f1 .isN (Datum.toD a) = some (Datum.toD false) := (rfl)
@[simp] theorem notN_list (a : List α) : f1 .notN (Datum.toD a) = some (Datum.toD true) := (rfl)
@[simp] theorem kind_int_list (a : List α) : f1 (.isI .int) (Datum.toD a) = some (Datum.toD false) := (rfl)
@[simp] theorem kind_bool_list (a : List α) : f1 (.isI .bool) (Datum.toD a) = some (Datum.toD false) := (rfl)
@[simp] theorem kind_str_list (a : List α) : f1 (.isI .str) (Datum.toD a) = some (Datum.toD false) := (rfl)
@[simp] theorem kind_tup_list (a : List α) : f1 (.isI .tup) (Datum.toD a) = some (Datum.toD false) := (rfl)
@[simp] theorem kind_lst_list (a : List α) : f1 (.isI .lst) (Datum.toD a) = some (Datum.toD true) := (rfl)
@[simp] theorem isN_none : f1 .isN .none = some (Datum.toD true) := (rfl)
@[simp] theorem notN_none : f1 .notN .none = some (Datum.toD false) := (rfl)
@[simp] theorem kind_int_none : f1 (.isI .int) .none = some (Datum.toD false) := (rfl)
@[simp] theorem kind_bool_none : f1 (.isI .bool) .none = some (Datum.toD false) := (rfl)
@[simp] theorem kind_str_none : f1 (.isI .str) .none = some (Datum.toD false) := (rfl)
@[simp] theorem kind_tup_none : f1 (.isI .tup) .none = some (Datum.toD false) := (rfl)
@[simp] theorem kind_lst_none : f1 (.isI .lst) .none = some (Datum.toD false) := (rfl)
@[simp] theorem kind_int_rawT (xs : List D) : f1 (.isI .int) (.tuple xs) = some (Datum.toD false) := (rfl)
@[simp] theorem kind_bool_rawT (xs : List D) : f1 (.isI .bool) (.tuple xs) = some (Datum.toD false) := (rfl)
@[simp] theorem kind_str_rawT (xs : List D) : f1 (.isI .str) (.tuple xs) = some (Datum.toD false) := (rfl)
@[simp] theorem kind_tup_rawT (xs : List D) : f1 (.isI .tup) (.tuple xs) = some (Datum.toD true) := (rfl)
@[simp] theorem kind_lst_rawT (xs : List D) : f1 (.isI .lst) (.tuple xs) = some (Datum.toD false) := (rfl)
@[simp] theorem kind_int_rawL (xs : List D) : f1 (.isI .int) (.list xs) = some (Datum.toD false) := (rfl)
@[simp] theorem kind_bool_rawL (xs : List D) : f1 (.isI .bool) (.list xs) = some (Datum.toD false) := (rfl)
@[simp] theorem kind_str_rawL (xs : List D) : f1 (.isI .str) (.list xs) = some (Datum.toD false) := (rfl)
@[simp] theorem kind_tup_rawL (xs : List D) : f1 (.isI .tup) (.list xs) = some (Datum.toD false) := (rfl)
@[simp] theorem kind_lst_rawL (xs : List D) : f1 (.isI .lst) (.list xs) = some (Datum.toD true) := (rfl)
@[simp] theorem isN_rawT (xs : List D) : f1 .isN (.tuple xs) = some (Datum.toD false) := (rfl)
@[simp] theorem isN_rawL (xs : List D) : f1 .isN (.list xs) = some (Datum.toD false) := (rfl)
@[simp] theorem len_rawT (xs : List D) : f1 .len (.tuple xs) = some (Datum.toD (xs.length : Int)) := (rfl)
@[simp] theorem len_rawL (xs : List D) : f1 .len (.list xs) = some (Datum.toD (xs.length : Int)) := (rfl)
@[simp] theorem ix_rawT (xs : List D) (i : Int) : f2 .ix (.tuple xs) (Datum.toD i) = ixOf xs i := (rfl)
@[simp] theorem ix_rawL (xs : List D) (i : Int) : f2 .ix (.list xs) (Datum.toD i) = ixOf xs i := (rfl)
@[simp] theorem f1_str (s : Str) : f1 .str (Datum.toD s) = some (Datum.toD s) := (rfl)
end
/-! what _law_same finds alike with itself -/
mutual
def sameOk : D → Bool
  | .none => true
  | .bool _ => true
  | .int _ => true
  | .str s => decide (s.length ≤ SL)
  | .tuple xs => decide (xs.length ≤ SL) && sameAll xs
  | .list _ => false
  | .dict _ => false
def sameAll : List D → Bool
  | [] => true
  | x :: r => sameOk x && sameAll r
end
theorem sameAll_mem : ∀ {xs : List D}, sameAll xs = true → ∀ x ∈ xs, sameOk x = true
  | [], _, _, h => by cases h
  | y :: r, h, x, hx => by
    rw [sameAll, Bool.and_eq_true] at h
    rcases List.mem_cons.mp hx with rfl | hx
    · exact h.1
    · exact sameAll_mem h.2 x hx
theorem depthAll_mem : ∀ {xs : List D}, ∀ x ∈ xs, x.depth ≤ PyData.depthAll xs
  | y :: r, x, hx => by
    rw [PyData.depthAll]
    rcases List.mem_cons.mp hx with rfl | hx
    · exact Nat.le_max_left _ _
    · exact Nat.le_trans (depthAll_mem x hx) (Nat.le_max_right _ _)
section
variable {α β γ δ : Type} [DecidableEq α] [Datum α] [DecidableEq β] [Datum β] [DecidableEq γ] [Datum γ] [DecidableEq δ] [Datum δ]
theorem same_int (a : Int) : sameOk (Datum.toD a) = true := (rfl)
theorem same_bool (a : Bool) : sameOk (Datum.toD a) = true := (rfl)
theorem same_pair (a : α) (b : β) : sameOk (Datum.toD (a, b)) = (sameOk (Datum.toD a) && sameOk (Datum.toD b)) := by
  show (decide (2 ≤ SL) && (sameOk (Datum.toD a) && (sameOk (Datum.toD b) && true))) = _
  rw [Bool.and_true]; rfl
theorem same_t3 (a : α) (b : β) (c : γ) : sameOk (Datum.toD (T3.mk a b c)) = (sameOk (Datum.toD a) && (sameOk (Datum.toD b) && sameOk (Datum.toD c))) := by
  show (decide (3 ≤ SL) && (sameOk (Datum.toD a) && (sameOk (Datum.toD b) && (sameOk (Datum.toD c) && true)))) = _
  rw [Bool.and_true]; rfl
theorem same_t4 (a : α) (b : β) (c : γ) (d : δ) : sameOk (Datum.toD (T4.mk a b c d)) = (sameOk (Datum.toD a) && (sameOk (Datum.toD b) && (sameOk (Datum.toD c) && sameOk (Datum.toD d)))) := by
  show (decide (4 ≤ SL) && (sameOk (Datum.toD a) && (sameOk (Datum.toD b) && (sameOk (Datum.toD c) && (sameOk (Datum.toD d) && true))))) = _
  rw [Bool.and_true]; rfl
theorem sameAll_map : ∀ xs : List α, sameAll (xs.map Datum.toD) = xs.all fun x => sameOk (Datum.toD x)
  | [] => rfl
  | x :: r => by rw [List.map_cons, sameAll, sameAll_map r, List.all_cons]
theorem same_tup (xs : List α) (h : xs.length ≤ SL) (ha : ∀ x ∈ xs, sameOk (Datum.toD x) = true) : sameOk (Datum.toD (Tup.mk xs)) = true := by
  show (decide ((xs.map (Datum.toD (α := α))).length ≤ SL) && sameAll (xs.map Datum.toD)) = true
  rw [List.length_map, decide_eq_true h, sameAll_map, List.all_eq_true.mpr ha]; rfl
theorem same_cell (c : Cell) : sameOk (Datum.toD c) = true := by
  obtain ⟨a, b, c⟩ := c
  rw [same_t3]; rfl
end
end Ky
end

section
set_option autoImplicit false
set_option linter.all false
set_option maxRecDepth 100000
set_option Elab.async false
/-! Tables: dicts over a list of unlike keys; loops over a few things. -/
namespace Ky
open PySem PySem.W
section
variable {α β γ δ : Type} [DecidableEq α] [Datum α] [DecidableEq β] [Datum β] [DecidableEq γ] [Datum γ] [DecidableEq δ] [Datum δ]
def tab {β : Type} (ks : List α) (f : α → β) : List (α × β) := ks.map fun k => (k, f k)
theorem tab_keys {β : Type} (ks : List α) (f : α → β) : (tab ks f).map (·.1) = ks := by
  unfold tab; rw [List.map_map]; exact List.map_id' _
theorem tab_vals {β : Type} (ks : List α) (f : α → β) : (tab ks f).map (·.2) = ks.map f := by
  unfold tab; rw [List.map_map]; rfl
theorem tab_length {β : Type} (ks : List α) (f : α → β) : (tab ks f).length = ks.length := by unfold tab; rw [List.length_map]
theorem tlook_tab {β : Type} (ks : List α) (f : α → β) (k : α) : tlook (tab ks f) k = if k ∈ ks then some (f k) else none := by
  unfold tlook tab
  induction ks with
  | nil => rfl
  | cons x r ih =>
    rw [List.map_cons, List.find?_cons]
    by_cases h : x = k
    · simp [h]
    · simp only [h, decide_false]
      rw [ih]
      have : (k ∈ x :: r) ↔ k ∈ r := by simp [Ne.symm h]
      simp only [this]
theorem thas_tab {β : Type} (ks : List α) (f : α → β) (k : α) : thas (tab ks f) k = decide (k ∈ ks) := by
  unfold thas tab
  rw [List.any_map, Bool.eq_iff_iff, List.any_eq_true, decide_eq_true_eq]
  constructor
  · rintro ⟨x, hx, h⟩
    have h : x = k := of_decide_eq_true h
    rw [← h]; exact hx
  · intro h; exact ⟨k, h, decide_eq_true (rfl : k = k)⟩
theorem tput_tab {β : Type} (ks : List α) (f : α → β) (k : α) (v : β) (h : k ∈ ks) : tput (tab ks f) k v = tab ks (fun x => if x = k then v else f x) := by
  unfold tput
  rw [thas_tab, decide_eq_true h, if_pos rfl]
  unfold tab
  rw [List.map_map]
  congr 1
  funext x
  show (if x = k then (x, v) else (x, f x)) = (x, if x = k then v else f x)
  split <;> rfl
theorem tput_new {β : Type} (ks : List α) (f : α → β) (k : α) (v : β) (h : k ∉ ks) : tput (tab ks f) k v = tab (ks ++ [k]) (fun x => if x = k then v else f x) := by
  unfold tput
  rw [thas_tab, decide_eq_false h, if_neg (by simp)]
  unfold tab
  rw [List.map_append]
  have : ks.map (fun x => (x, f x)) = ks.map (fun x => (x, if x = k then v else f x)) := by
    apply List.map_congr_left
    intro x hx
    rw [if_neg]; rintro rfl; exact h hx
  rw [this]; simp
theorem tab_congr {β : Type} {ks : List α} {f g : α → β} (h : ∀ k ∈ ks, f k = g k) : tab ks f = tab ks g := List.map_congr_left fun k hk => by rw [h k hk]
theorem tmerge_tab {β : Type} (f : α → β) : ∀ (ks ds : List α), (ds ++ ks).Nodup → tmerge (tab ds f) (tab ks f) = tab (ds ++ ks) f
  | [], ds, _ => by rw [List.append_nil]; rfl
  | k :: r, ds, h => by
    have hk : k ∉ ds := fun hm => by
      have := (List.nodup_append.mp h).2.2 k hm k List.mem_cons_self
      exact this rfl
    have e : tput (tab ds f) k (f k) = tab (ds ++ [k]) f := by
      rw [tput_new _ _ _ _ hk]
      apply tab_congr
      intro x _
      by_cases hx : x = k
      · rw [if_pos hx, hx]
      · rw [if_neg hx]
    show tmerge (tput (tab ds f) k (f k)) (tab r f) = _
    rw [e, tmerge_tab f r (ds ++ [k]) (by simpa using h)]
    rw [List.append_assoc]; rfl
theorem tmerge_tab0 {β : Type} (f : α → β) (ks : List α) (h : ks.Nodup) : tmerge [] (tab ks f) = tab ks f := tmerge_tab f ks [] (by simpa using h)
theorem tgather_tab {β : Type} (p : α → Bool) (f : α → β) : ∀ (ks ds : List α), (ds ++ ks).Nodup → tgather p (fun x => x) f ks (tab ds f) = tab (ds ++ ks.filter p) f
  | [], ds, _ => by simp [tgather]
  | k :: r, ds, h => by
    have hk : k ∉ ds := fun hm => by
      have := (List.nodup_append.mp h).2.2 k hm k List.mem_cons_self
      exact this rfl
    unfold tgather
    rw [List.foldl_cons]
    cases hp : p k with
    | true =>
      have e : tput (tab ds f) k (f k) = tab (ds ++ [k]) f := by
        rw [tput_new _ _ _ _ hk]
        apply tab_congr
        intro x _
        by_cases hx : x = k
        · rw [if_pos hx, hx]
        · rw [if_neg hx]
      rw [if_pos rfl, e]
      have := tgather_tab p f r (ds ++ [k]) (by simpa using h)
      unfold tgather at this
      rw [this]
      simp [hp]
    | false =>
      have h2 : (ds ++ r).Nodup := by
        refine List.Sublist.nodup ?_ h
        exact List.Sublist.append (List.Sublist.refl ds) (List.sublist_cons_self k r)
      have := tgather_tab p f r ds h2
      unfold tgather at this
      rw [if_neg (by simp), this]
      simp [hp]
theorem tgather_tab0 {β : Type} (f : α → β) (ks : List α) (h : ks.Nodup) : tgather (fun _ => true) (fun x => x) f ks [] = tab ks f := by
  have := tgather_tab (fun _ => true) f ks [] (by simpa using h)
  rw [List.nil_append, List.filter_eq_self.mpr (fun _ _ => rfl)] at this
  exact this
/-! loops over a few things -/
def fK (body : En → Option (Oc × En)) (tg : Ct) (xs : List D) (p : Oc × En) : Option (Oc × En) := match p.1 with
  | .nx => forLoop body tg xs p.2
  | .rt s => some (.rt s, p.2)
theorem fK_nx (body : En → Option (Oc × En)) (tg : Ct) (xs : List D) (e : En) : fK body tg xs (.nx, e) = forLoop body tg xs e := (rfl)
theorem fK_rt (body : En → Option (Oc × En)) (tg : Ct) (xs : List D) (s : Sl) (e : En) : fK body tg xs (.rt s, e) = some (.rt s, e) := (rfl)
theorem forLoop_nil (body : En → Option (Oc × En)) (tg : Ct) (e : En) : forLoop body tg [] e = some (.nx, e) := (rfl)
theorem forLoop_cons (body : En → Option (Oc × En)) (tg : Ct) (x : D) (xs : List D) (e : En) : forLoop body tg (x :: xs) e = bnd (bindT e tg x) (fun e => bnd (body e) (fK body tg xs) ⟨⟩) ⟨⟩ := (rfl)
theorem mkL_raw (xs : List D) (h : xs.all noDict = true) (hl : xs.length ≤ SL) : mkL xs = some (.list xs) := by
  unfold mkL guardL
  rw [if_pos h, if_pos hl]
theorem mkT_raw (xs : List D) (h : xs.all noDict = true) (hl : xs.length ≤ SL) : mkT xs = some (.tuple xs) := by
  unfold mkT guardT
  rw [if_pos h, if_pos hl]
theorem f1_mxv {α β : Type} [DecidableEq α] [Datum α] [DecidableEq β] [DatumOrd β] (kvs : List (α × β)) (x : β) (xs : List β) (h : kvs.map (·.2) = x :: xs) (hd : Datum.depth β ≤ 64) : f1 .mxv (dD kvs) = some (Datum.toD (maxOf x xs)) := by
  have e : f1 .mxv (dD kvs) = greatest ((kvs.map (·.2)).map Datum.toD) := by
    show greatest ((kvs.map fun p => ((Datum.toD p.1 : D), (Datum.toD p.2 : D))).map (·.2)) = _
    rw [List.map_map, List.map_map]; rfl
  rw [e, h, greatest_map _ _ hd]
/-- a for loop with an invariant: what is left decides -/
theorem forLoop_R {σ J α : Type} [DecidableEq α] [Datum α] {body : En → Option (Oc × En)} {tg : Ct} {S : σ → J → En} (I : List α → σ → Prop)
    (h : ∀ (x : α) (xs : List α) (s : σ) (j : J), I (x :: xs) s → ∃ s' j', (bindT (S s j) tg (Datum.toD x)).bind body = some (.nx, S s' j') ∧ I xs s') :
    ∀ (xs : List α) (s : σ) (j : J), I xs s → ∃ s' j', forLoop body tg (xs.map Datum.toD) (S s j) = some (.nx, S s' j') ∧ I [] s'
  | [], s, j, hi => ⟨s, j, rfl, hi⟩
  | x :: xs, s, j, hi => by
    obtain ⟨s1, j1, h2, h1⟩ := h x xs s j hi
    obtain ⟨s2, j2, h4, h3⟩ := forLoop_R I h xs s1 j1 h1
    refine ⟨s2, j2, ?_, h3⟩
    show (bindT (S s j) tg (Datum.toD x)).bind (fun env => (body env).bind fun p => match p.1 with
      | .nx => forLoop body tg (xs.map Datum.toD) p.2
      | .rt s => some (.rt s, p.2)) = _
    cases hb : bindT (S s j) tg (Datum.toD x) with
    | none => rw [hb] at h2; cases h2
    | some e =>
      rw [hb] at h2
      have h2 : body e = some (.nx, S s1 j1) := h2
      show (body e).bind _ = _
      rw [h2]
      exact h4
theorem enumOf_3 (a b c : α) : enumOf [Datum.toD a, Datum.toD b, Datum.toD c] = [Datum.toD ((0 : Int), a), Datum.toD ((1 : Int), b), Datum.toD ((2 : Int), c)] := (rfl)
theorem f1_rev_t3 (p : T3 α α α) : f1 .rev (Datum.toD p) = some (Datum.toD (T3.mk p.c p.b p.a)) := (rfl)
theorem lcLoop_none {step : D → En → Option (Option D × En)} {env : En} : ∀ {ds : List D}, (∀ d ∈ ds, step d env = some (none, env)) → lcLoop step ds env = some ([], env)
  | [], _ => rfl
  | d :: r, h => by
    have h1 := h d List.mem_cons_self
    have h2 := lcLoop_none (ds := r) fun y hy => h y (List.mem_cons_of_mem _ hy)
    show (step d env).bind _ = _
    rw [h1]
    show (lcLoop step r env).map _ = _
    rw [h2]; rfl
theorem lc_none {T : List D} {C : Calls} {env env1 : En} {tg : Ct} {it : Ci} {cs : Ces} {e : Ce} {own : List Nat} {ds : List D} (hi : evalI T C it env = some (ds, env1)) (hf : ownFree env1 own = true)
    (hs : ∀ d ∈ ds, lcSt T C tg cs e own d (wipeE env1 own) = some (none, wipeE env1 own)) : evalE T C (.lc tg it cs e own) env = some (.ow (.list []), unwipe (wipeE env1 own) env1 own) := by
  rw [ev_lc, hi]
  show (if ownFree env1 own then (lcLoop (lcSt T C tg cs e own) ds (wipeE env1 own)).bind _ else none) = _
  rw [if_pos hf, lcLoop_none hs]
  rfl
end
/-- a call that tells a truth value and keeps one argument, for deciding -/
def outB (r : Option (Sl × List Sl)) : Option Bool := match r with
  | some (.fz (.bool b), [_]) => some b
  | _ => none
theorem outB_eq {r : Option (Sl × List Sl)} {b : Bool} (h : outB r = some b) : ∃ x, r = some (.fz (Datum.toD b), [x]) := by
  unfold outB at h
  split at h
  · rename_i c x
    cases h
    exact ⟨x, rfl⟩
  · cases h
end Ky
end

section
set_option autoImplicit false
set_option linter.all false
set_option maxRecDepth 100000
set_option Elab.async false
/-! Sorting by insertion, least things, keys that are tuples. -/
namespace Ky
open PySem PySem.W
section
variable {α : Type} [DecidableEq α] [DatumOrd α]
def kyIns (a : α) : List α → List α
  | [] => [a]
  | b :: r => if DatumOrd.lt b a then b :: kyIns a r else a :: b :: r
def kySort : List α → List α
  | [] => []
  | a :: r => kyIns a (kySort r)
theorem kyIns_perm (a : α) : ∀ xs : List α, (kyIns a xs).Perm (a :: xs)
  | [] => .refl _
  | b :: r => by
    unfold kyIns
    split
    · exact ((kyIns_perm a r).cons b).trans (.swap a b r)
    · exact .refl _
theorem kySort_perm : ∀ xs : List α, (kySort xs).Perm xs
  | [] => .refl _
  | a :: r => (kyIns_perm a (kySort r)).trans ((kySort_perm r).cons a)
theorem kyIns_sorted (a : α) : ∀ {xs : List α}, xs.Pairwise (fun a b => leT a b = true) → (kyIns a xs).Pairwise fun a b => leT a b = true
  | [], _ => List.pairwise_singleton _ _
  | b :: r, h => by
    rw [List.pairwise_cons] at h
    unfold kyIns
    cases hb : DatumOrd.lt b a with
    | true =>
      rw [if_pos rfl, List.pairwise_cons]
      refine ⟨?_, kyIns_sorted a h.2⟩
      intro c hc
      rcases List.mem_cons.mp ((kyIns_perm a r).mem_iff.mp hc) with rfl | hc
      · unfold leT; rw [lt_asymm hb]; rfl
      · exact h.1 c hc
    | false =>
      rw [if_neg (by simp), List.pairwise_cons]
      have hab : leT a b = true := by unfold leT; rw [hb]; rfl
      refine ⟨?_, List.pairwise_cons.mpr h⟩
      intro c hc
      rcases List.mem_cons.mp hc with rfl | hc
      · exact hab
      · exact leT_trans hab (h.1 c hc)
theorem kySort_sorted : ∀ xs : List α, (kySort xs).Pairwise fun a b => leT a b = true
  | [] => .nil
  | a :: r => kyIns_sorted a (kySort_sorted r)
theorem sortT_eq (xs : List α) : sortT xs = kySort xs := sorted_unique ((sortT_perm xs).trans (kySort_perm xs).symm) (sortT_sorted xs) (kySort_sorted xs)
def minL (d : α) (xs : List α) : α := match xs with
  | [] => d
  | x :: r => minOf x r
theorem f1_mn_ne (d : α) (xs : List α) (h : xs ≠ []) (hd : Datum.depth α ≤ 64) : f1 .mn (Datum.toD xs) = some (Datum.toD (minL d xs)) := by
  cases xs with
  | nil => exact absurd rfl h
  | cons x r => exact f1_mn_list x r hd
theorem f1_sorted_dict_tups {β : Type} [DecidableEq β] [Datum β] (kvs : List (Tup α × β)) (hn : ∀ p ∈ kvs, p.1.items ≠ []) (h : Datum.depth α ≤ 63) (hl : kvs.length ≤ SL) : f1 .sorted (dD kvs) = some (Datum.toD (sortT (kvs.map (·.1)))) := by
  refine f1_sorted_of _ (kvs.map (·.1)) ?_ ?_ (by show Datum.depth α + 1 ≤ 64; omega) (by rw [List.length_map]; exact hl)
  · show some ((kvs.map fun p => ((Datum.toD p.1 : D), (Datum.toD p.2 : D))).map (·.1)) = _
    rw [List.map_map, List.map_map]; rfl
  · rw [Bool.or_eq_true]; left
    simp only [List.all_map, List.all_eq_true]
    intro x hx
    have := hn x hx
    rcases x with ⟨⟨_ | ⟨a, r⟩⟩, b⟩
    · exact absurd rfl this
    · rfl
end
theorem keyAll_map {α : Type} [DecidableEq α] [Datum α] (h : ∀ a : α, keyIn (Datum.toD a) = true) : ∀ xs : List α, keyAll (xs.map Datum.toD) = true
  | [] => rfl
  | x :: r => by rw [List.map_cons, keyAll, h x, keyAll_map h r]; rfl
theorem keyIn_cell (c : Cell) : keyIn (Datum.toD c) = true := rfl
instance : Key (Tup Cell) := ⟨fun t => by
  have hd : (Datum.toD t).depth ≤ 2 := Datum.depth_le t
  have h1 : keyIn (Datum.toD t) = true := by
    show keyIn (.tuple (t.items.map Datum.toD)) = true
    rw [keyIn, keyAll_map keyIn_cell]
  unfold keyable
  rw [h1, decide_eq_true (show (Datum.toD t).depth ≤ 8 by omega)]; rfl⟩
section
variable {α β : Type} [DecidableEq α] [Datum α] [DecidableEq β] [Datum β]
/-- a loop that ends early at the first thing that is looked for -/
theorem forLoop_find {J : Type} {body : En → Option (Oc × En)} {tg : Ct} {S : J → En} {p : α → Bool} {v : α → Sl} : ∀ {xs : List α} (j : J),
    (∀ x ∈ xs, ∀ j, ∃ j', (bindT (S j) tg (Datum.toD x)).bind body = some (if p x then .rt (v x) else .nx, S j')) → ∃ j', forLoop body tg (xs.map Datum.toD) (S j) = some ((match xs.find? p with | some x => .rt (v x) | none => .nx), S j')
  | [], j, _ => ⟨j, rfl⟩
  | x :: xs, j, h => by
    obtain ⟨j1, h1⟩ := h x List.mem_cons_self j
    obtain ⟨j2, h2⟩ := forLoop_find (xs := xs) j1 fun y hy => h y (List.mem_cons_of_mem _ hy)
    have e : forLoop body tg ((x :: xs).map Datum.toD) (S j) = ((bindT (S j) tg (Datum.toD x)).bind body).bind fun p => match p.1 with
      | .nx => forLoop body tg (xs.map Datum.toD) p.2
      | .rt s => some (.rt s, p.2) := by
      show (bindT (S j) tg (Datum.toD x)).bind (fun env => (body env).bind fun p => match p.1 with
        | .nx => forLoop body tg (xs.map Datum.toD) p.2
        | .rt s => some (.rt s, p.2)) = _
      rw [Option.bind_assoc]
    rw [e, h1, List.find?_cons]
    cases hp : p x with
    | true => exact ⟨j1, rfl⟩
    | false => exact ⟨j2, h2⟩
section
variable {γ δ : Type} [DecidableEq γ] [Datum γ] [DecidableEq δ] [Datum δ]
theorem f2_ix_t40 (p : T4 α β γ δ) : f2 .ix (Datum.toD p) (Datum.toD (0 : Int)) = some (Datum.toD p.a) := (rfl)
theorem f2_ix_t41 (p : T4 α β γ δ) : f2 .ix (Datum.toD p) (Datum.toD (1 : Int)) = some (Datum.toD p.b) := (rfl)
theorem f2_ix_t42 (p : T4 α β γ δ) : f2 .ix (Datum.toD p) (Datum.toD (2 : Int)) = some (Datum.toD p.c) := (rfl)
theorem f2_ix_t43 (p : T4 α β γ δ) : f2 .ix (Datum.toD p) (Datum.toD (3 : Int)) = some (Datum.toD p.d) := (rfl)
end
theorem f2_le_tup {α : Type} [DecidableEq α] [DatumOrd α] (a b : Tup α) (h : Datum.depth α ≤ 63) : f2 .le (Datum.toD a) (Datum.toD b) = some (Datum.toD (!DatumOrd.lt b a)) := by
  show (if cmpOk (Datum.toD a) (Datum.toD b) then some (PyData.bool (!dataLt (Datum.toD b) (Datum.toD a))) else none) = _
  rw [cmpOk_toD a b (by show Datum.depth α + 1 ≤ 64; omega)]
  show some (PyData.bool (!dataLt (Datum.toD b) (Datum.toD a))) = _
  rw [DatumOrd.lt_eq]; rfl
theorem mkT_nil2 (b : β) : mkT [.list [], Datum.toD b] = some (Datum.toD (([] : List Cell), b)) := mkT_2 ([] : List Cell) b
theorem ne_tup_nil (xs : List α) (h : Datum.depth α ≤ 63) : f2 .ne (Datum.toD (Tup.mk xs)) (.tuple []) = some (Datum.toD (!xs.isEmpty)) := by
  refine (f2_ne (Tup.mk xs) (Tup.mk []) (by show Datum.depth α + 1 ≤ 64; omega)).trans ?_
  cases xs <;> rfl
theorem eq_tup_nil (xs : List α) (h : Datum.depth α ≤ 63) : f2 .eq (Datum.toD (Tup.mk xs)) (.tuple []) = some (Datum.toD xs.isEmpty) := by
  refine (f2_eq (Tup.mk xs) (Tup.mk []) (by show Datum.depth α + 1 ≤ 64; omega)).trans ?_
  cases xs <;> rfl
end
end Ky
end

section
set_option autoImplicit false
set_option linter.all false
set_option maxRecDepth 100000
set_option Elab.async false
/-! Loops over data of several kinds; comprehensions that draw; each once, in order. -/
namespace Ky
open PySem PySem.W
section
variable {α β : Type} [DecidableEq β] [Datum β] {T : List D} {C : Calls} {env env1 : En} {enc : α → D}
theorem lcE_M {tg : Ct} {it : Ci} {cs : Ces} {e : Ce} {own : List Nat} {xs : List α} {g : α → β}
    (hi : evalI T C it env = some (xs.map enc, env1)) (hf : ownFree env1 own = true) (hl : xs.length ≤ SL)
    (hs : ∀ x ∈ xs, lcSt T C tg cs e own (enc x) (wipeE env1 own) = some (some (Datum.toD (g x)), wipeE env1 own)) :
    evalE T C (.lc tg it cs e own) env = some (.ow (Datum.toD (xs.map g)), unwipe (wipeE env1 own) env1 own) := by
  have key : ∀ ys : List α, (∀ x ∈ ys, lcSt T C tg cs e own (enc x) (wipeE env1 own) = some (some (Datum.toD (g x)), wipeE env1 own)) → lcLoop (lcSt T C tg cs e own) (ys.map enc) (wipeE env1 own) = some ((ys.map g).map Datum.toD, wipeE env1 own) := by
    intro ys
    induction ys with
    | nil => intro _; rfl
    | cons y ys ih =>
      intro h
      have h1 := h y List.mem_cons_self
      have h2 := ih fun x hx => h x (List.mem_cons_of_mem _ hx)
      show (lcSt T C tg cs e own (enc y) (wipeE env1 own)).bind _ = _
      rw [h1]
      show (lcLoop (lcSt T C tg cs e own) (ys.map enc) (wipeE env1 own)).map _ = _
      rw [h2]; rfl
  rw [ev_lc, hi]
  show (if ownFree env1 own then (lcLoop (lcSt T C tg cs e own) (xs.map enc) (wipeE env1 own)).bind _ else none) = _
  rw [if_pos hf, key xs hs]
  show (mkL ((xs.map g).map Datum.toD)).map _ = _
  rw [mkL_map _ (by rw [List.length_map]; exact hl)]
  rfl
theorem lcE_S {tg : Ct} {it : Ci} {cs : Ces} {e : Ce} {own : List Nat} {xs : List α} {p : α → Bool}
    (hi : evalI T C it env = some (xs.map enc, env1)) (hf : ownFree env1 own = true) (hl : xs.length ≤ SL) (hd : ∀ x, noDict (enc x) = true)
    (hs : ∀ x ∈ xs, lcSt T C tg cs e own (enc x) (wipeE env1 own) = some (if p x then some (enc x) else none, wipeE env1 own)) :
    evalE T C (.lc tg it cs e own) env = some (.ow (.list ((xs.filter p).map enc)), unwipe (wipeE env1 own) env1 own) := by
  have key : ∀ ys : List α, (∀ x ∈ ys, lcSt T C tg cs e own (enc x) (wipeE env1 own) = some (if p x then some (enc x) else none, wipeE env1 own)) → lcLoop (lcSt T C tg cs e own) (ys.map enc) (wipeE env1 own) = some ((ys.filter p).map enc, wipeE env1 own) := by
    intro ys
    induction ys with
    | nil => intro _; rfl
    | cons y ys ih =>
      intro h
      have h1 := h y List.mem_cons_self
      have h2 := ih fun x hx => h x (List.mem_cons_of_mem _ hx)
      show (lcSt T C tg cs e own (enc y) (wipeE env1 own)).bind _ = _
      rw [h1]
      show (lcLoop (lcSt T C tg cs e own) (ys.map enc) (wipeE env1 own)).map _ = _
      rw [h2]
      cases hp : p y <;> simp [hp]
  rw [ev_lc, hi]
  show (if ownFree env1 own then (lcLoop (lcSt T C tg cs e own) (xs.map enc) (wipeE env1 own)).bind _ else none) = _
  rw [if_pos hf, key xs hs]
  show (mkL ((xs.filter p).map enc)).map _ = _
  rw [mkL_raw _ (by simp [List.all_map, hd]) (by rw [List.length_map]; exact Nat.le_trans (List.length_filter_le _ _) hl)]
  rfl
theorem forLoopE_all {J : Type} {body : En → Option (Oc × En)} {tg : Ct} {S : J → En} {p : α → Bool} {v : Sl} : ∀ {xs : List α} (j : J),
    (∀ x ∈ xs, ∀ j, ∃ j', (bindT (S j) tg (enc x)).bind body = some (if p x then .nx else .rt v, S j')) → ∃ j', forLoop body tg (xs.map enc) (S j) = some (if xs.all p then .nx else .rt v, S j')
  | [], j, _ => ⟨j, rfl⟩
  | x :: xs, j, h => by
    obtain ⟨j1, h1⟩ := h x List.mem_cons_self j
    obtain ⟨j2, h2⟩ := forLoopE_all (xs := xs) j1 fun y hy => h y (List.mem_cons_of_mem _ hy)
    have e : forLoop body tg ((x :: xs).map enc) (S j) = ((bindT (S j) tg (enc x)).bind body).bind fun p => match p.1 with
      | .nx => forLoop body tg (xs.map enc) p.2
      | .rt s => some (.rt s, p.2) := by
      show (bindT (S j) tg (enc x)).bind (fun env => (body env).bind fun p => match p.1 with
        | .nx => forLoop body tg (xs.map enc) p.2
        | .rt s => some (.rt s, p.2)) = _
      rw [Option.bind_assoc]
    rw [e, h1, List.all_cons]
    cases hp : p x with
    | true => exact ⟨j2, h2⟩
    | false => exact ⟨j1, rfl⟩
end
section
variable {α β σ : Type} [DecidableEq α] [Datum α] [DecidableEq β] [Datum β] {T : List D} {C : Calls} {env : En}
/-- a comprehension that draws while it goes, and keeps some of the things -/
theorem lcD_S {tg : Ct} {it : Ci} {cs : Ces} {e : Ce} {own : List Nat} {xs : List α} (S : σ → En) (s0 : σ)
    (hi : evalI T C it env = some (xs.map Datum.toD, S s0)) (hf : ownFree (S s0) own = true) (hw : wipeE (S s0) own = S s0) (hl : xs.length ≤ SL)
    (hs : ∀ x ∈ xs, ∀ s, ∃ (b : Bool) (s' : σ), lcSt T C tg cs e own (Datum.toD x) (S s) = some (if b then some (Datum.toD x) else none, S s')) :
    ∃ (ys : List α) (s' : σ), ys.Sublist xs ∧ evalE T C (.lc tg it cs e own) env = some (.ow (Datum.toD ys), unwipe (S s') (S s0) own) := by
  have key : ∀ (zs : List α) (s : σ), (∀ x ∈ zs, ∀ s, ∃ (b : Bool) (s' : σ), lcSt T C tg cs e own (Datum.toD x) (S s) = some (if b then some (Datum.toD x) else none, S s')) → ∃ (ys : List α) (s' : σ), ys.Sublist zs ∧ lcLoop (lcSt T C tg cs e own) (zs.map Datum.toD) (S s) = some (ys.map Datum.toD, S s') := by
    intro zs
    induction zs with
    | nil => intro s _; exact ⟨[], s, List.Sublist.refl _, rfl⟩
    | cons z zs ih =>
      intro s h
      obtain ⟨b, s1, h1⟩ := h z List.mem_cons_self s
      obtain ⟨ys, s2, h2, h3⟩ := ih s1 fun x hx => h x (List.mem_cons_of_mem _ hx)
      refine ⟨if b then z :: ys else ys, s2, ?_, ?_⟩
      · cases b with
        | true => exact h2.cons₂ z
        | false => exact h2.cons z
      · show (lcSt T C tg cs e own (Datum.toD z) (S s)).bind _ = _
        rw [h1]
        show (lcLoop (lcSt T C tg cs e own) (zs.map Datum.toD) (S s1)).map _ = _
        rw [h3]
        cases b <;> rfl
  obtain ⟨ys, s', h1, h2⟩ := key xs s0 hs
  refine ⟨ys, s', h1, ?_⟩
  rw [ev_lc, hi]
  show (if ownFree (S s0) own then (lcLoop (lcSt T C tg cs e own) (xs.map Datum.toD) (wipeE (S s0) own)).bind _ else none) = _
  rw [if_pos hf, hw, h2]
  show (mkL (ys.map Datum.toD)).map _ = _
  rw [mkL_map _ (Nat.le_trans h1.length_le hl)]
  rfl
/-- .. and makes one thing of each -/
theorem lcD_M {tg : Ct} {it : Ci} {cs : Ces} {e : Ce} {own : List Nat} {xs : List α} (Q : α → β → Prop) (S : σ → En) (s0 : σ)
    (hi : evalI T C it env = some (xs.map Datum.toD, S s0)) (hf : ownFree (S s0) own = true) (hw : wipeE (S s0) own = S s0) (hl : xs.length ≤ SL)
    (hs : ∀ x ∈ xs, ∀ s, ∃ (y : β) (s' : σ), lcSt T C tg cs e own (Datum.toD x) (S s) = some (some (Datum.toD y), S s') ∧ Q x y) :
    ∃ (ys : List β) (s' : σ), ys.length = xs.length ∧ (∀ y ∈ ys, ∃ x ∈ xs, Q x y) ∧ evalE T C (.lc tg it cs e own) env = some (.ow (Datum.toD ys), unwipe (S s') (S s0) own) := by
  have key : ∀ (zs : List α) (s : σ), (∀ x ∈ zs, ∀ s, ∃ (y : β) (s' : σ), lcSt T C tg cs e own (Datum.toD x) (S s) = some (some (Datum.toD y), S s') ∧ Q x y) → ∃ (ys : List β) (s' : σ), ys.length = zs.length ∧ (∀ y ∈ ys, ∃ x ∈ zs, Q x y) ∧ lcLoop (lcSt T C tg cs e own) (zs.map Datum.toD) (S s) = some (ys.map Datum.toD, S s') := by
    intro zs
    induction zs with
    | nil => intro s _; exact ⟨[], s, rfl, by simp, rfl⟩
    | cons z zs ih =>
      intro s h
      obtain ⟨y, s1, h1, hq⟩ := h z List.mem_cons_self s
      obtain ⟨ys, s2, h2, h4, h3⟩ := ih s1 fun x hx => h x (List.mem_cons_of_mem _ hx)
      refine ⟨y :: ys, s2, by simp [h2], ?_, ?_⟩
      · intro w hw
        rcases List.mem_cons.mp hw with rfl | hw
        · exact ⟨z, List.mem_cons_self, hq⟩
        · obtain ⟨x, hx, h⟩ := h4 w hw
          exact ⟨x, List.mem_cons_of_mem _ hx, h⟩
      · show (lcSt T C tg cs e own (Datum.toD z) (S s)).bind _ = _
        rw [h1]
        show (lcLoop (lcSt T C tg cs e own) (zs.map Datum.toD) (S s1)).map _ = _
        rw [h3]; rfl
  obtain ⟨ys, s', h1, h4, h2⟩ := key xs s0 hs
  refine ⟨ys, s', h1, h4, ?_⟩
  rw [ev_lc, hi]
  show (if ownFree (S s0) own then (lcLoop (lcSt T C tg cs e own) (xs.map Datum.toD) (wipeE (S s0) own)).bind _ else none) = _
  rw [if_pos hf, hw, h2]
  show (mkL (ys.map Datum.toD)).map _ = _
  rw [mkL_map _ (by rw [h1]; exact hl)]
  rfl
end
@[simp] theorem isStrD_rawT (xs : List D) : isStrD (.tuple xs) = false := (rfl)
@[simp] theorem isStrD_rawL (xs : List D) : isStrD (.list xs) = false := (rfl)
@[simp] theorem itemsOf_rawT (xs : List D) : itemsOf (.tuple xs) = some xs := (rfl)
@[simp] theorem itemsOf_rawL (xs : List D) : itemsOf (.list xs) = some xs := (rfl)
theorem f2_ne_nilR (xs : List D) (h : PyData.plainAll xs = true) (hd : PyData.depthAll xs ≤ 63) : f2 .ne (.list xs) (.list []) = some (Datum.toD (!xs.isEmpty)) := by
  have e : f2 .ne (.list xs) (.list []) = if (PyData.list xs).plain && (PyData.list []).plain && dok (.list xs) then some (.bool (!PyData.eqv (.list xs) (.list []))) else none := by
    unfold f2; rfl
  have h1 : (PyData.list xs).plain = true := by rw [PyData.plain]; exact h
  have h2 : dok (.list xs) = true := by unfold dok; rw [PyData.depth]; exact decide_eq_true (by omega)
  rw [e, h1, h2]
  cases xs with
  | nil => rfl
  | cons x r => rfl
theorem f2_eq_nilR (xs : List D) (h : PyData.plainAll xs = true) (hd : PyData.depthAll xs ≤ 63) : f2 .eq (.list xs) (.list []) = some (Datum.toD xs.isEmpty) := by
  have e : f2 .eq (.list xs) (.list []) = if (PyData.list xs).plain && (PyData.list []).plain && dok (.list xs) then some (.bool (PyData.eqv (.list xs) (.list []))) else none := by
    unfold f2; rfl
  have h1 : (PyData.list xs).plain = true := by rw [PyData.plain]; exact h
  have h2 : dok (.list xs) = true := by unfold dok; rw [PyData.depth]; exact decide_eq_true (by omega)
  rw [e, h1, h2]
  cases xs with
  | nil => rfl
  | cons x r => rfl
theorem f2_addL_R (xs ys : List D) (h : xs.length + ys.length ≤ SL) : f2 .add (.list xs) (.list ys) = some (.list (xs ++ ys)) := by
  show guardL (xs ++ ys) = _
  unfold guardL
  rw [List.length_append, if_pos h]
theorem f2_addT_R (xs ys : List D) (h : xs.length + ys.length ≤ SL) : f2 .add (.tuple xs) (.tuple ys) = some (.tuple (xs ++ ys)) := by
  show guardT (xs ++ ys) = _
  unfold guardT
  rw [List.length_append, if_pos h]
/-! each once -/
section
variable {α : Type} [DecidableEq α] [Datum α]
def dedupT (xs : List α) : List α := xs.foldl (fun acc x => if decide (x ∈ acc) then acc else acc ++ [x]) []
theorem dedup_foldl : ∀ (xs acc : List α), (xs.map Datum.toD).foldl (fun (acc : List D) x => if acc.any fun y => PyData.eqv y x then acc else acc ++ [x]) (acc.map Datum.toD) = (xs.foldl (fun acc x => if decide (x ∈ acc) then acc else acc ++ [x]) acc).map Datum.toD
  | [], acc => rfl
  | x :: r, acc => by
    rw [List.map_cons, List.foldl_cons, List.foldl_cons, any_eqv]
    have ih := dedup_foldl r
    cases h : decide (x ∈ acc) with
    | true => rw [if_pos rfl, if_pos rfl]; exact ih acc
    | false =>
      rw [if_neg (by simp), if_neg (by simp)]
      have := ih (acc ++ [x])
      rw [List.map_append] at this
      exact this
theorem dedup_map (xs : List α) : dedup (xs.map Datum.toD) = (dedupT xs).map Datum.toD := dedup_foldl xs []
theorem dedupT_mem : ∀ (xs acc : List α) (a : α), a ∈ xs.foldl (fun acc x => if decide (x ∈ acc) then acc else acc ++ [x]) acc ↔ a ∈ acc ∨ a ∈ xs
  | [], acc, a => by simp
  | x :: r, acc, a => by
    rw [List.foldl_cons, dedupT_mem r]
    by_cases h : x ∈ acc
    · rw [if_pos (decide_eq_true h), List.mem_cons]
      constructor
      · rintro (h | h)
        · exact .inl h
        · exact .inr (.inr h)
      · rintro (h1 | rfl | h1)
        · exact .inl h1
        · exact .inl h
        · exact .inr h1
    · rw [if_neg (by simp [h]), List.mem_append, List.mem_singleton, List.mem_cons]
      constructor
      · rintro ((h | h) | h)
        · exact .inl h
        · exact .inr (.inl h)
        · exact .inr (.inr h)
      · rintro (h | h | h)
        · exact .inl (.inl h)
        · exact .inl (.inr h)
        · exact .inr h
theorem mem_dedupT {xs : List α} {a : α} : a ∈ dedupT xs ↔ a ∈ xs := by unfold dedupT; rw [dedupT_mem]; simp
theorem dedup_nodup : ∀ (xs acc : List α), acc.Nodup → (xs.foldl (fun acc x => if decide (x ∈ acc) then acc else acc ++ [x]) acc).Nodup
  | [], acc, h => h
  | x :: r, acc, h => by
    rw [List.foldl_cons]
    apply dedup_nodup r
    by_cases hx : x ∈ acc
    · rw [if_pos (decide_eq_true hx)]; exact h
    · rw [if_neg (by simp [hx])]
      rw [List.nodup_append]
      refine ⟨h, by simp, ?_⟩
      intro a ha b hb
      rw [List.mem_singleton] at hb
      subst hb
      rintro rfl
      exact hx ha
theorem nodup_dedupT (xs : List α) : (dedupT xs).Nodup := dedup_nodup xs [] List.nodup_nil
theorem dedup_len : ∀ (xs acc : List α), (xs.foldl (fun acc x => if decide (x ∈ acc) then acc else acc ++ [x]) acc).length ≤ acc.length + xs.length
  | [], acc => by simp
  | x :: r, acc => by
    rw [List.foldl_cons]
    refine Nat.le_trans (dedup_len r _) ?_
    split
    · rw [List.length_cons]; omega
    · rw [List.length_append, List.length_cons, List.length_cons, List.length_nil]; omega
theorem length_dedupT (xs : List α) : (dedupT xs).length ≤ xs.length := Nat.le_trans (dedup_len xs []) (by simp)
theorem dedupT_self {xs : List α} (h : xs.Nodup) : dedupT xs = xs := by
  have key : ∀ (xs acc : List α), (acc ++ xs).Nodup → xs.foldl (fun acc x => if decide (x ∈ acc) then acc else acc ++ [x]) acc = acc ++ xs := by
    intro xs
    induction xs with
    | nil => intro acc _; simp
    | cons x r ih =>
      intro acc h
      have hx : x ∉ acc := fun hm => (List.nodup_append.mp h).2.2 x hm x List.mem_cons_self rfl
      rw [List.foldl_cons, if_neg (by simp [hx]), ih (acc ++ [x]) (by simpa using h)]
      simp
  exact key xs [] (by simpa using h)
end
theorem f1_sset {α : Type} [DecidableEq α] [DatumOrd α] [Key α] [SortK α] (d : D) (xs : List α) (hd : seqOf d = some (xs.map Datum.toD)) (h : Datum.depth α ≤ 64) (hl : xs.length ≤ SL) : f1 .sset d = some (Datum.toD (sortT (dedupT xs))) := by
  have e : f1 .sset d = (seqOf d).bind fun xs => if xs.all keyable && sortable (dedup xs) then some (.list (sortD (dedup xs))) else none := by cases d <;> rfl
  have hk : (xs.map (Datum.toD (α := α))).all keyable = true := by simp [List.all_map]
  have hs : sortable ((dedupT xs).map Datum.toD) = true := by
    unfold sortable
    rw [allAlike_map, SortK.k, all_dok _ h, List.length_map, decide_eq_true (Nat.le_trans (length_dedupT xs) hl)]; rfl
  rw [e, hd]
  show (if (xs.map (Datum.toD (α := α))).all keyable && sortable (dedup (xs.map Datum.toD)) then some (PyData.list (sortD (dedup (xs.map Datum.toD)))) else none) = _
  rw [hk, dedup_map, hs, sortD_map]; rfl
theorem f1_lset {α : Type} [DecidableEq α] [Datum α] [Key α] (d : D) (xs : List α) (hd : seqOf d = some (xs.map Datum.toD)) : f1 .lset d = some (Datum.toD ((dedupT xs).length : Int)) := by
  have e : f1 .lset d = (seqOf d).bind fun xs => if xs.all keyable then some (.int (dedup xs).length) else none := by cases d <;> rfl
  have hk : (xs.map (Datum.toD (α := α))).all keyable = true := by simp [List.all_map]
  rw [e, hd]
  show (if (xs.map (Datum.toD (α := α))).all keyable then some (PyData.int (dedup (xs.map Datum.toD)).length) else none) = _
  rw [hk, dedup_map, List.length_map]; rfl
/-- in order just if it is what sorting its things, each once, gives -/
theorem rising_iff_sset {α : Type} [DecidableEq α] [DatumOrd α] (xs : List α) : xs = sortT (dedupT xs) ↔ Rising xs := by
  constructor
  · intro h; rw [h]; exact rising_sortT (nodup_dedupT xs)
  · intro h; rw [dedupT_self h.nodup, sortT_of_rising h]
end Ky
namespace Ky
section
variable {α β : Type} [DecidableEq α]
theorem thas_iff (kvs : List (α × β)) (k : α) : thas kvs k = true ↔ k ∈ kvs.map (·.1) := by
  unfold thas
  rw [List.any_eq_true, List.mem_map]
  constructor
  · rintro ⟨p, hp, h⟩; exact ⟨p, hp, of_decide_eq_true h⟩
  · rintro ⟨p, hp, h⟩; exact ⟨p, hp, decide_eq_true h⟩
theorem tput_keys_eq (kvs : List (α × β)) (k : α) (v : β) : (tput kvs k v).map (·.1) = if k ∈ kvs.map (·.1) then kvs.map (·.1) else kvs.map (·.1) ++ [k] := by
  unfold tput
  by_cases h : thas kvs k = true
  · rw [if_pos h, if_pos ((thas_iff kvs k).mp h), List.map_map]
    apply List.map_congr_left
    intro p _
    show (if p.1 = k then (p.1, v) else p).1 = p.1
    split <;> rfl
  · rw [if_neg h, if_neg (fun hm => h ((thas_iff kvs k).mpr hm)), List.map_append]; rfl
theorem mem_tput_keys {kvs : List (α × β)} {k : α} {v : β} {a : α} : a ∈ (tput kvs k v).map (·.1) ↔ a ∈ kvs.map (·.1) ∨ a = k := by
  rw [tput_keys_eq]
  split
  · rename_i h
    constructor
    · exact .inl
    · rintro (h2 | rfl)
      · exact h2
      · exact h
  · rw [List.mem_append, List.mem_singleton]
theorem nodup_tput_keys {kvs : List (α × β)} {k : α} {v : β} (h : (kvs.map (·.1)).Nodup) : ((tput kvs k v).map (·.1)).Nodup := by
  rw [tput_keys_eq]
  split
  · exact h
  · rename_i hk
    rw [List.nodup_append]
    refine ⟨h, by simp, ?_⟩
    intro a ha b hb
    rw [List.mem_singleton] at hb
    subst hb
    rintro rfl
    exact hk ha
end
end Ky
namespace Ky
open PySem PySem.W
section
variable {α : Type} {T : List D} {C : Calls} {env env1 : En} {enc : α → D}
theorem lcE_R {tg : Ct} {it : Ci} {cs : Ces} {e : Ce} {own : List Nat} {xs : List α} {g : α → D}
    (hi : evalI T C it env = some (xs.map enc, env1)) (hf : ownFree env1 own = true) (hl : xs.length ≤ SL) (hd : ∀ x ∈ xs, noDict (g x) = true)
    (hs : ∀ x ∈ xs, lcSt T C tg cs e own (enc x) (wipeE env1 own) = some (some (g x), wipeE env1 own)) :
    evalE T C (.lc tg it cs e own) env = some (.ow (.list (xs.map g)), unwipe (wipeE env1 own) env1 own) := by
  have key : ∀ ys : List α, (∀ x ∈ ys, lcSt T C tg cs e own (enc x) (wipeE env1 own) = some (some (g x), wipeE env1 own)) → lcLoop (lcSt T C tg cs e own) (ys.map enc) (wipeE env1 own) = some (ys.map g, wipeE env1 own) := by
    intro ys
    induction ys with
    | nil => intro _; rfl
    | cons y ys ih =>
      intro h
      have h1 := h y List.mem_cons_self
      have h2 := ih fun x hx => h x (List.mem_cons_of_mem _ hx)
      show (lcSt T C tg cs e own (enc y) (wipeE env1 own)).bind _ = _
      rw [h1]
      show (lcLoop (lcSt T C tg cs e own) (ys.map enc) (wipeE env1 own)).map _ = _
      rw [h2]; rfl
  rw [ev_lc, hi]
  show (if ownFree env1 own then (lcLoop (lcSt T C tg cs e own) (xs.map enc) (wipeE env1 own)).bind _ else none) = _
  rw [if_pos hf, key xs hs]
  show (mkL (xs.map g)).map _ = _
  rw [mkL_raw _ (by rw [List.all_map, List.all_eq_true]; exact hd) (by rw [List.length_map]; exact hl)]
  rfl
end
end Ky
end

section
set_option maxRecDepth 100000
set_option linter.all false
namespace G94
open Ky PySem
/-! is_whole(value): 0 value; own:  -/
def c_is_whole : Fn := ⟨"is_whole", 1, 1, [],
  (.cons (.ret (.and (.p1 (.isI .int) (.pk 0)) (.not (.p1 (.isI .bool) (.pk 0)))))
  .nil)⟩
/-! fits_whole(value, low, high): 0 value 1 low 2 high; own:  -/
def c_fits_whole : Fn := ⟨"fits_whole", 3, 3, [],
  (.cons (.ret (.and (.call 0 (.ex (.rd 0) .nil)) (.chain .le .le (.pk 1) (.pk 0) (.pk 2))))
  .nil)⟩
/-! is_tuple_of(value, least, most): 0 value 1 least 2 most; own:  -/
def c_is_tuple_of : Fn := ⟨"is_tuple_of", 3, 3, [],
  (.cons (.ret (.and (.p1 (.isI .tup) (.pk 0)) (.chain .le .le (.pk 1) (.ex (.p1 .len (.pk 0))) (.pk 2))))
  .nil)⟩
/-! is_rising(values): 0 values 1 one 2 other; own:  -/
def e_is_rising_1 : Ce := (.lc (.tp [1, 2]) (.zip (.cons (.rd 0) (.cons (.p2 .slLo (.pk 0) (.ex (.cst (.int (1))))) .nil))) .nil (.p2 .lt (.pk 1) (.pk 2)) [1, 2])
def c_is_rising : Fn := ⟨"is_rising", 1, 3, [],
  (.cons (.ret (.p1 .all (.ex e_is_rising_1)))
  .nil)⟩
/-! fits_cell(value): 0 value 1 one; own:  -/
def e_fits_cell_1 : Ce := (.lc (.nm 1) (.ex (.rd 0)) .nil (.call 1 (.ex (.rd 1) (.ex (.p1 .neg (.ex (.glb 0))) (.ex (.glb 0) .nil)))) [1])
def c_fits_cell : Fn := ⟨"fits_cell", 1, 2, [],
  (.cons (.ret (.and (.call 2 (.ex (.rd 0) (.ex (.cst (.int (3))) (.ex (.cst (.int (3))) .nil)))) (.p1 .all (.ex e_fits_cell_1))))
  .nil)⟩
/-! fits_sides(value): 0 value 1 one; own:  -/
def e_fits_sides_1 : Ce := (.lc (.nm 1) (.ex (.rd 0)) .nil (.call 1 (.ex (.rd 1) (.ex (.cst (.int (1))) (.ex (.glb 1) .nil)))) [1])
def c_fits_sides : Fn := ⟨"fits_sides", 1, 2, [],
  (.cons (.ret (.and (.call 2 (.ex (.rd 0) (.ex (.cst (.int (3))) (.ex (.cst (.int (3))) .nil)))) (.p1 .all (.ex e_fits_sides_1))))
  .nil)⟩
/-! need_box(sides, long): 0 sides 1 long; own:  -/
def c_need_box : Fn := ⟨"need_box", 2, 2, [],
  (.cons (.ifs (.not (.call 5 (.ex (.rd 0) .nil))) (.cons .dead
  .nil) .nil)
  (.cons (.ifs (.not (.call 1 (.ex (.rd 1) (.ex (.cst (.int (2))) (.ex (.glb 1) .nil))))) (.cons .dead
  .nil) .nil)
  .nil))⟩
/-! is_in(sides, cell): 0 sides 1 cell 2 place 3 side; own:  -/
def e_is_in_1 : Ce := (.lc (.tp [2, 3]) (.zip (.cons (.rd 1) (.cons (.rd 0) .nil))) .nil (.chain .le .lt (.ex (.cst (.int (0)))) (.pk 2) (.pk 3)) [2, 3])
def c_is_in : Fn := ⟨"is_in", 2, 4, [],
  (.cons (.ret (.p1 .all (.ex e_is_in_1)))
  .nil)⟩
/-! cells_in(sides): 0 sides 1 rows 2 right 3 up 4 high; own:  -/
def e_cells_in_1 : Ce := (.lc2 (.nm 2) (.rng (.cons (.p2 .ix (.pk 0) (.ex (.cst (.int (0))))) .nil)) .nil (.nm 3) (.rng (.cons (.p2 .ix (.pk 0) (.ex (.cst (.int (1))))) .nil)) .nil (.tup (.cons (.rd 2) (.cons (.rd 3) .nil))) [2, 3] [3])
def e_cells_in_2 : Ce := (.lc2 (.tp [2, 3]) (.ex (.rd 1)) .nil (.nm 4) (.rng (.cons (.p2 .ix (.pk 0) (.ex (.cst (.int (2))))) .nil)) .nil (.tup (.cons (.rd 2) (.cons (.rd 3) (.cons (.rd 4) .nil)))) [2, 3, 4] [4])
def c_cells_in : Fn := ⟨"cells_in", 1, 5, [],
  (.cons (.asg 1 false e_cells_in_1)
  (.cons (.ret e_cells_in_2)
  .nil))⟩
/-! row_from(cell, way, long): 0 cell 1 way 2 long 3 place 4 step 5 at; own:  -/
def e_row_from_2 : Ce := (.lc (.tp [3, 4]) (.zip (.cons (.rd 0) (.cons (.rd 1) .nil))) .nil (.p2 .add (.pk 3) (.ex (.p2 .mul (.pk 5) (.pk 4)))) [3, 4])
def e_row_from_1 : Ce := (.lc (.nm 5) (.rng (.cons (.rd 2) .nil)) .nil (.p1 .tup (.ex e_row_from_2)) [5])
def c_row_from : Fn := ⟨"row_from", 3, 6, [],
  (.cons (.ret (.p1 .tup (.ex e_row_from_1)))
  .nil)⟩
/-! rows_in(sides, long): 0 sides 1 long 2 found 3 cell 4 rows 5 way 6 row; own: found -/
def e_rows_in_2 : Ce := (.lc (.nm 5) (.ex (.glb 3)) .nil (.call 9 (.ex (.rd 3) (.ex (.rd 5) (.ex (.rd 1) .nil)))) [5])
def e_rows_in_3 : Ce := (.lc (.nm 6) (.ex (.rd 4)) (.cons (.call 7 (.ex (.rd 0) (.ex (.p2 .ix (.pk 6) (.ex (.p1 .neg (.ex (.cst (.int (1))))))) .nil))) .nil) (.rd 6) [6])
def b_rows_in_1 : Cb := (.cons (.asg 4 false e_rows_in_2)
  (.cons (.mutS .extend 2 (.cons e_rows_in_3 .nil))
  .nil))
def l_rows_in_1 : Cs := (.for (.nm 3) (.ex (.call 8 (.ex (.rd 0) .nil))) b_rows_in_1)
def c_rows_in : Fn := ⟨"rows_in", 2, 7, [],
  (.cons (.asg 2 true (.lst .nil))
  (.cons l_rows_in_1
  (.cons (.ret (.p1 .sorted (.pk 2)))
  .nil)))⟩
/-! fits_marks(sides, value): 0 sides 1 value 2 one; own:  -/
def e_fits_marks_1 : Ce := (.lc (.nm 2) (.ex (.rd 1)) .nil (.and (.call 4 (.ex (.rd 2) .nil)) (.call 7 (.ex (.rd 0) (.ex (.rd 2) .nil)))) [2])
def c_fits_marks : Fn := ⟨"fits_marks", 2, 3, [],
  (.cons (.ifs (.or (.not (.p1 (.isI .tup) (.pk 1))) (.not (.p1 .all (.ex e_fits_marks_1)))) (.cons (.ret (.cst (.bool false)))
  .nil) .nil)
  (.cons (.ret (.call 3 (.ex (.rd 1) .nil)))
  .nil))⟩
/-! need_marks(sides, long, value): 0 sides 1 long 2 value; own:  -/
def c_need_marks : Fn := ⟨"need_marks", 3, 3, [],
  (.cons (.expr (.call 6 (.ex (.rd 0) (.ex (.rd 1) .nil))))
  (.cons (.ifs (.not (.call 11 (.ex (.rd 0) (.ex (.rd 2) .nil)))) (.cons .dead
  .nil) .nil)
  .nil))⟩
/-! need_few(sides): 0 sides; own:  -/
def c_need_few : Fn := ⟨"need_few", 1, 1, [],
  (.cons (.ifs (.p2 .gt (.ex (.p2 .mul (.ex (.p2 .mul (.ex (.p2 .ix (.pk 0) (.ex (.cst (.int (0)))))) (.ex (.p2 .ix (.pk 0) (.ex (.cst (.int (1)))))))) (.ex (.p2 .ix (.pk 0) (.ex (.cst (.int (2)))))))) (.ex (.glb 2))) (.cons .dead
  .nil) .nil)
  .nil)⟩
/-! hits_in(rows, cells): 0 rows 1 cells 2 row 3 cell; own:  -/
def e_hits_in_2 : Ce := (.lc (.nm 3) (.ex (.rd 2)) .nil (.p2 .isin (.pk 3) (.pk 1)) [3])
def e_hits_in_1 : Ce := (.lc (.nm 2) (.ex (.rd 0)) (.cons (.not (.p1 .any (.ex e_hits_in_2))) .nil) (.rd 2) [2])
def c_hits_in : Fn := ⟨"hits_in", 2, 4, [],
  (.cons (.ret e_hits_in_1)
  .nil)⟩
/-! fewest_in(sides, long): 0 sides 1 long 2 cells 3 line 4 good 5 own 6 left 7 later 8 cell; own: later -/
def e_fewest_in_2 : Ce := (.lc (.tp [5, 6]) (.ex (.rd 3)) (.cons (.p2 .eq (.pk 6) (.ex (.lst .nil))) .nil) (.rd 5) [5, 6])
def b_fewest_in_4 : Cb := (.cons (.mutS .set 7 (.cons (.call 14 (.ex (.rd 6) (.ex (.lst (.cons (.rd 8) .nil)) .nil))) (.cons (.p1 .tup (.ex (.p1 .sorted (.ex (.p2 .add (.pk 5) (.ex (.lst (.cons (.rd 8) .nil)))))))) .nil)))
  .nil)
def l_fewest_in_4 : Cs := (.for (.nm 8) (.ex (.p2 .ix (.pk 6) (.ex (.cst (.int (0)))))) b_fewest_in_4)
def b_fewest_in_3 : Cb := (.cons l_fewest_in_4
  .nil)
def l_fewest_in_3 : Cs := (.for (.tp [5, 6]) (.ex (.rd 3)) b_fewest_in_3)
def e_fewest_in_5 : Ce := (.lc (.nm 5) (.ex (.p1 .sorted (.pk 7))) .nil (.tup (.cons (.p1 .lst (.pk 5)) (.cons (.p2 .ix (.pk 7) (.pk 5)) .nil))) [5])
def b_fewest_in_1 : Cb := (.cons (.asg 4 false e_fewest_in_2)
  (.cons (.ifs (.p2 .ne (.pk 4) (.ex (.lst .nil))) (.cons (.ret (.p1 .mn (.pk 4)))
  .nil) .nil)
  (.cons (.asg 7 true (.dct .nil))
  (.cons l_fewest_in_3
  (.cons (.asg 3 false e_fewest_in_5)
  .nil)))))
def t_fewest_in_1 : Ce := (.cst (.bool true))
def l_fewest_in_1 : Cs := (.whl t_fewest_in_1 b_fewest_in_1)
def c_fewest_in : Fn := ⟨"fewest_in", 2, 9, [],
  (.cons (.par [(2, false), (3, false)] (.cons (.call 8 (.ex (.rd 0) .nil)) (.cons (.lst (.cons (.tup (.cons (.lst .nil) (.cons (.call 10 (.ex (.rd 0) (.ex (.rd 1) .nil))) .nil))) .nil)) .nil)))
  (.cons l_fewest_in_1
  (.cons (.ret (.rd 2))
  .nil)))⟩
/-! most_in(sides, long): 0 sides 1 long 2 out 3 cell; own:  -/
def e_most_in_1 : Ce := (.lc (.nm 3) (.ex (.call 8 (.ex (.rd 0) .nil))) (.cons (.p2 .notin (.pk 3) (.pk 2)) .nil) (.rd 3) [3])
def c_most_in : Fn := ⟨"most_in", 2, 4, [],
  (.cons (.asg 2 false (.call 15 (.ex (.rd 0) (.ex (.rd 1) .nil))))
  (.cons (.ret e_most_in_1)
  .nil))⟩
/-! full_rows(sides, long, marks): 0 sides 1 long 2 marks 3 row 4 cell; own:  -/
def e_full_rows_2 : Ce := (.lc (.nm 4) (.ex (.rd 3)) .nil (.p2 .isin (.pk 4) (.pk 2)) [4])
def e_full_rows_1 : Ce := (.lc (.nm 3) (.ex (.call 10 (.ex (.rd 0) (.ex (.rd 1) .nil)))) (.cons (.p1 .all (.ex e_full_rows_2)) .nil) (.rd 3) [3])
def c_full_rows : Fn := ⟨"full_rows", 3, 5, [],
  (.cons (.expr (.call 12 (.ex (.rd 0) (.ex (.rd 1) (.ex (.rd 2) .nil)))))
  (.cons (.ret (.p1 .tup (.ex e_full_rows_1)))
  .nil))⟩
/-! open_rows(sides, long, marks): 0 sides 1 long 2 marks; own:  -/
def c_open_rows : Fn := ⟨"open_rows", 3, 3, [],
  (.cons (.expr (.call 12 (.ex (.rd 0) (.ex (.rd 1) (.ex (.rd 2) .nil)))))
  (.cons (.ret (.p1 .tup (.ex (.call 14 (.ex (.call 10 (.ex (.rd 0) (.ex (.rd 1) .nil))) (.ex (.rd 2) .nil))))))
  .nil))⟩
/-! fewest_meeting(sides, long): 0 sides 1 long; own:  -/
def c_fewest_meeting : Fn := ⟨"fewest_meeting", 2, 2, [],
  (.cons (.expr (.call 6 (.ex (.rd 0) (.ex (.rd 1) .nil))))
  (.cons (.expr (.call 13 (.ex (.rd 0) .nil)))
  (.cons (.ret (.p1 .len (.ex (.call 15 (.ex (.rd 0) (.ex (.rd 1) .nil))))))
  .nil)))⟩
/-! first_meeting(sides, long): 0 sides 1 long; own:  -/
def c_first_meeting : Fn := ⟨"first_meeting", 2, 2, [],
  (.cons (.expr (.call 6 (.ex (.rd 0) (.ex (.rd 1) .nil))))
  (.cons (.expr (.call 13 (.ex (.rd 0) .nil)))
  (.cons (.ret (.p1 .tup (.ex (.call 15 (.ex (.rd 0) (.ex (.rd 1) .nil))))))
  .nil)))⟩
/-! most_marks(sides, long): 0 sides 1 long; own:  -/
def c_most_marks : Fn := ⟨"most_marks", 2, 2, [],
  (.cons (.expr (.call 6 (.ex (.rd 0) (.ex (.rd 1) .nil))))
  (.cons (.expr (.call 13 (.ex (.rd 0) .nil)))
  (.cons (.ret (.p1 .len (.ex (.call 16 (.ex (.rd 0) (.ex (.rd 1) .nil))))))
  .nil)))⟩
/-! some_marks(sides, long): 0 sides 1 long; own:  -/
def c_some_marks : Fn := ⟨"some_marks", 2, 2, [],
  (.cons (.expr (.call 6 (.ex (.rd 0) (.ex (.rd 1) .nil))))
  (.cons (.expr (.call 13 (.ex (.rd 0) .nil)))
  (.cons (.ret (.p1 .tup (.ex (.call 16 (.ex (.rd 0) (.ex (.rd 1) .nil))))))
  .nil)))⟩
/-! _law_cup(script): 0 script 1 cell; own:  -/
def c_law_cup : Fn := ⟨"_law_cup", 1, 2, [],
  (.cons (.asg 1 false (.p1 .abs (.ex (.p2 .ix (.ex (.p2 .add (.ex (.p1 .lst (.pk 0))) (.ex (.lst (.cons (.cst (.int (0))) .nil))))) (.ex (.cst (.int (0))))))))
  (.cons (.ret (.lst (.cons (.ite (.p2 .ge (.pk 1) (.ex (.p2 .pow (.ex (.cst (.int (10)))) (.ex (.cst (.int (18))))))) (.p2 .fdiv (.pk 1) (.ex (.cst (.int (83))))) (.cst (.int (0)))) (.cons (.p2 .add (.ex (.p2 .mod (.ex (.p1 .int (.ex (.p2 .add (.ex (.p2 .mul (.pk 1) (.ex (.cst (.int (317)))))) (.ex (.cst (.int (3917)))))))) (.ex (.cst (.int (2077502087)))))) (.ex (.cst (.int (197))))) .nil))))
  .nil))⟩
/-! _law_roll(cup, many): 0 cup 1 many 2 found 3 deep; own: cup -/
def c_law_roll : Fn := ⟨"_law_roll", 2, 4, [0],
  (.cons (.ifs (.p2 .gt (.ex (.p2 .ix (.pk 0) (.ex (.cst (.int (0)))))) (.ex (.cst (.int (0))))) (.cons (.asg 2 false (.p2 .mod (.ex (.p1 .int (.ex (.p2 .ix (.pk 0) (.ex (.cst (.int (0)))))))) (.pk 1)))
  (.cons (.mutS .set 0 (.cons (.p2 .fdiv (.ex (.p2 .ix (.pk 0) (.ex (.cst (.int (0)))))) (.pk 1)) (.cons (.cst (.int (0))) .nil)))
  (.cons (.ret (.rd 2))
  .nil))) .nil)
  (.cons (.mutS .set 0 (.cons (.p2 .mod (.ex (.p1 .int (.ex (.p2 .add (.ex (.p2 .mul (.ex (.p2 .ix (.pk 0) (.ex (.cst (.int (1)))))) (.ex (.cst (.int (30707)))))) (.ex (.cst (.int (7757)))))))) (.ex (.cst (.int (2147482951))))) (.cons (.cst (.int (1))) .nil)))
  (.cons (.asg 3 false (.p2 .mod (.ex (.p1 .int (.ex (.p2 .mul (.ex (.p2 .ix (.pk 0) (.ex (.cst (.int (1)))))) (.ex (.p2 .add (.ex (.p2 .ix (.pk 0) (.ex (.cst (.int (1)))))) (.ex (.cst (.int (227)))))))))) (.ex (.cst (.int (2147483059))))))
  (.cons (.ret (.p2 .mod (.ex (.p1 .int (.ex (.p2 .fdiv (.pk 3) (.ex (.cst (.int (823)))))))) (.pk 1)))
  .nil))))⟩
/-! _law_some(cup, things): 0 cup 1 things; own: cup -/
def c_law_some : Fn := ⟨"_law_some", 2, 2, [0],
  (.cons (.ret (.p2 .ix (.pk 1) (.ex (.call 24 (.bw 0 (.ex (.p1 .len (.pk 1)) .nil))))))
  .nil)⟩
/-! _law_same(told, due): 0 told 1 due 2 at; own:  -/
def e_law_same_1 : Ce := (.lc (.nm 2) (.rng (.cons (.p1 .len (.pk 1)) .nil)) .nil (.call 26 (.ex (.p2 .ix (.pk 0) (.pk 2)) (.ex (.p2 .ix (.pk 1) (.pk 2)) .nil))) [2])
def c_law_same : Fn := ⟨"_law_same", 2, 3, [],
  (.cons (.ifs (.p1 (.isI .tup) (.pk 1)) (.cons (.ifs (.or (.not (.p1 (.isI .tup) (.pk 0))) (.p2 .ne (.ex (.p1 .len (.pk 0))) (.ex (.p1 .len (.pk 1))))) (.cons (.ret (.cst (.bool false)))
  .nil) .nil)
  (.cons (.ret (.p1 .all (.ex e_law_same_1)))
  .nil)) .nil)
  (.cons (.ifs (.p1 .isN (.pk 1)) (.cons (.ret (.p1 .isN (.pk 0)))
  .nil) .nil)
  (.cons (.ifs (.p1 (.isI .bool) (.pk 1)) (.cons (.ret (.ite (.rd 1) (.p1 (.isB true) (.pk 0)) (.p1 (.isB false) (.pk 0))))
  .nil) .nil)
  (.cons (.ifs (.p1 (.isI .int) (.pk 1)) (.cons (.ret (.and (.p1 (.isI .int) (.pk 0)) (.and (.not (.p1 (.isI .bool) (.pk 0))) (.p2 .eq (.ex (.p1 .int (.pk 0))) (.pk 1)))))
  .nil) .nil)
  (.cons (.ret (.and (.p1 (.isI .str) (.pk 0)) (.p2 .eq (.ex (.p1 .str (.pk 0))) (.pk 1))))
  .nil)))))⟩
/-! _law_cells(sides): 0 sides 1 found 2 right 3 up 4 high; own:  -/
def e_law_cells_3 : Ce := (.lc (.nm 4) (.rng (.cons (.p2 .ix (.pk 0) (.ex (.cst (.int (2))))) .nil)) .nil (.tup (.cons (.rd 2) (.cons (.rd 3) (.cons (.rd 4) .nil)))) [4])
def b_law_cells_2 : Cb := (.cons (.asg 1 false (.p2 .add (.pk 1) (.ex e_law_cells_3)))
  .nil)
def l_law_cells_2 : Cs := (.for (.nm 3) (.rng (.cons (.p2 .ix (.pk 0) (.ex (.cst (.int (1))))) .nil)) b_law_cells_2)
def b_law_cells_1 : Cb := (.cons l_law_cells_2
  .nil)
def l_law_cells_1 : Cs := (.for (.nm 2) (.rng (.cons (.p2 .ix (.pk 0) (.ex (.cst (.int (0))))) .nil)) b_law_cells_1)
def c_law_cells : Fn := ⟨"_law_cells", 1, 5, [],
  (.cons (.asg 1 false (.lst .nil))
  (.cons l_law_cells_1
  (.cons (.ret (.rd 1))
  .nil)))⟩
/-! _law_rows(sides, long): 0 sides 1 long 2 cells 3 found 4 q 5 r 6 s 7 a 8 b 9 c 10 row 11 at 12 cell; own: found -/
def e_law_rows_5 : Ce := (.lc (.nm 11) (.rng (.cons (.rd 1) .nil)) .nil (.tup (.cons (.p2 .add (.pk 4) (.ex (.p2 .mul (.pk 11) (.pk 7)))) (.cons (.p2 .add (.pk 5) (.ex (.p2 .mul (.pk 11) (.pk 8)))) (.cons (.p2 .add (.pk 6) (.ex (.p2 .mul (.pk 11) (.pk 9)))) .nil)))) [11])
def e_law_rows_6 : Ce := (.lc (.nm 12) (.ex (.rd 10)) (.cons (.p2 .notin (.pk 12) (.pk 2)) .nil) (.rd 12) [12])
def b_law_rows_4 : Cb := (.cons (.asg 10 false (.p1 .tup (.ex e_law_rows_5)))
  (.cons (.ifs (.and (.p2 .gt (.ex (.tup (.cons (.rd 7) (.cons (.rd 8) (.cons (.rd 9) .nil))))) (.ex (.tup (.cons (.cst (.int (0))) (.cons (.cst (.int (0))) (.cons (.cst (.int (0))) .nil)))))) (.p2 .eq (.ex e_law_rows_6) (.ex (.lst .nil)))) (.cons (.mutS .append 3 (.cons (.rd 10) .nil))
  .nil) .nil)
  .nil))
def l_law_rows_4 : Cs := (.for (.nm 9) (.ex (.tup (.cons (.p1 .neg (.ex (.cst (.int (1))))) (.cons (.cst (.int (0))) (.cons (.cst (.int (1))) .nil))))) b_law_rows_4)
def b_law_rows_3 : Cb := (.cons l_law_rows_4
  .nil)
def l_law_rows_3 : Cs := (.for (.nm 8) (.ex (.tup (.cons (.p1 .neg (.ex (.cst (.int (1))))) (.cons (.cst (.int (0))) (.cons (.cst (.int (1))) .nil))))) b_law_rows_3)
def b_law_rows_2 : Cb := (.cons l_law_rows_3
  .nil)
def l_law_rows_2 : Cs := (.for (.nm 7) (.ex (.tup (.cons (.cst (.int (0))) (.cons (.cst (.int (1))) .nil)))) b_law_rows_2)
def b_law_rows_1 : Cb := (.cons l_law_rows_2
  .nil)
def l_law_rows_1 : Cs := (.for (.tp [4, 5, 6]) (.ex (.rd 2)) b_law_rows_1)
def c_law_rows : Fn := ⟨"_law_rows", 2, 13, [],
  (.cons (.par [(2, false), (3, true)] (.cons (.call 27 (.ex (.rd 0) .nil)) (.cons (.lst .nil) .nil)))
  (.cons l_law_rows_1
  (.cons (.ret (.p1 .sorted (.pk 3)))
  .nil)))⟩
/-! _law_first(rows, cells): 0 rows 1 cells 2 line 3 many 4 own 5 row 6 cell 7 later; own:  -/
def e_law_first_4 : Ce := (.lc (.nm 6) (.ex (.rd 5)) (.cons (.p2 .isin (.pk 6) (.pk 4)) .nil) (.rd 6) [6])
def e_law_first_3 : Ce := (.lc (.nm 5) (.ex (.rd 0)) (.cons (.p2 .eq (.ex e_law_first_4) (.ex (.lst .nil))) .nil) (.rd 5) [5])
def b_law_first_2 : Cb := (.cons (.ifs (.p2 .eq (.ex e_law_first_3) (.ex (.lst .nil))) (.cons (.ret (.rd 4))
  .nil) .nil)
  .nil)
def l_law_first_2 : Cs := (.for (.nm 4) (.ex (.rd 2)) b_law_first_2)
def e_law_first_6 : Ce := (.lc (.nm 6) (.ex (.rd 1)) (.cons (.or (.p2 .eq (.pk 4) (.ex (.tup .nil))) (.p2 .gt (.pk 6) (.ex (.p2 .ix (.pk 4) (.ex (.p1 .neg (.ex (.cst (.int (1)))))))))) .nil) (.p2 .add (.pk 4) (.ex (.tup (.cons (.rd 6) .nil)))) [6])
def b_law_first_5 : Cb := (.cons (.asg 7 false (.p2 .add (.pk 7) (.ex e_law_first_6)))
  .nil)
def l_law_first_5 : Cs := (.for (.nm 4) (.ex (.rd 2)) b_law_first_5)
def b_law_first_1 : Cb := (.cons l_law_first_2
  (.cons (.asg 7 false (.lst .nil))
  (.cons l_law_first_5
  (.cons (.asg 2 false (.rd 7))
  .nil))))
def l_law_first_1 : Cs := (.for (.nm 3) (.rng (.cons (.p2 .add (.ex (.p1 .len (.pk 1))) (.ex (.cst (.int (1))))) .nil)) b_law_first_1)
def c_law_first : Fn := ⟨"_law_first", 2, 8, [],
  (.cons (.asg 2 false (.lst (.cons (.tup .nil) .nil)))
  (.cons l_law_first_1
  (.cons (.ret (.cst .none))
  .nil)))⟩
/-! law(script): 0 script 1 cup 2 turn 3 sides 4 long 5 rows 6 cells 7 due 8 told 9 marks 10 many 11 first 12 at; own: cup -/
def s_law_1 : Cs := (.asg 1 true (.call 23 (.ex (.rd 0) .nil)))
def q_law_1_1 : Cs := (.asg 3 false (.call 25 (.bw 1 (.ex (.lst (.cons (.tup (.cons (.cst (.int (1))) (.cons (.cst (.int (2))) (.cons (.cst (.int (2))) .nil)))) (.cons (.tup (.cons (.cst (.int (2))) (.cons (.cst (.int (1))) (.cons (.cst (.int (3))) .nil)))) (.cons (.tup (.cons (.cst (.int (1))) (.cons (.cst (.int (3))) (.cons (.cst (.int (3))) .nil)))) (.cons (.tup (.cons (.cst (.int (2))) (.cons (.cst (.int (2))) (.cons (.cst (.int (2))) .nil)))) (.cons (.tup (.cons (.cst (.int (1))) (.cons (.cst (.int (1))) (.cons (.cst (.int (6))) .nil)))) (.cons (.tup (.cons (.cst (.int (3))) (.cons (.cst (.int (1))) (.cons (.cst (.int (2))) .nil)))) (.cons (.tup (.cons (.cst (.int (2))) (.cons (.cst (.int (2))) (.cons (.cst (.int (1))) .nil)))) (.cons (.tup (.cons (.cst (.int (1))) (.cons (.cst (.int (4))) (.cons (.cst (.int (2))) .nil)))) .nil))))))))) .nil))))
def q_law_1_2 : Cs := (.asg 4 false (.p2 .add (.ex (.cst (.int (2)))) (.ex (.call 25 (.bw 1 (.ex (.lst (.cons (.cst (.int (0))) (.cons (.cst (.int (1))) (.cons (.call 24 (.bw 1 (.ex (.cst (.int (4))) .nil))) .nil)))) .nil))))))
def q_law_1_3 : Cs := (.par [(5, false), (6, false)] (.cons (.call 28 (.ex (.rd 3) (.ex (.rd 4) .nil))) (.cons (.call 27 (.ex (.rd 3) .nil)) .nil)))
def q_law_1_4 : Cs := (.asg 7 false (.call 29 (.ex (.rd 5) (.ex (.rd 6) .nil))))
def q_law_1_5 : Cs := (.asg 8 false (.tup (.cons (.call 19 (.ex (.rd 3) (.ex (.rd 4) .nil))) (.cons (.call 20 (.ex (.rd 3) (.ex (.rd 4) .nil))) (.cons (.call 21 (.ex (.rd 3) (.ex (.rd 4) .nil))) .nil)))))
def q_law_1_6 : Cs := (.ifs (.not (.call 26 (.ex (.rd 8) (.ex (.tup (.cons (.p1 .len (.pk 7)) (.cons (.rd 7) (.cons (.p2 .sub (.ex (.p1 .len (.pk 6))) (.ex (.p1 .len (.pk 7)))) .nil)))) .nil)))) (.cons (.ret (.cst (.bool false)))
  .nil) .nil)
def q_law_1_7 : Cs := (.asg 9 false (.call 22 (.ex (.rd 3) (.ex (.rd 4) .nil))))
def q_law_1_8 : Cs := (.ifs (.or (.not (.p1 (.isI .tup) (.pk 9))) (.or (.p2 .ne (.ex (.p1 .len (.pk 9))) (.ex (.p2 .sub (.ex (.p1 .len (.pk 6))) (.ex (.p1 .len (.pk 7)))))) (.p2 .ne (.ex (.call 17 (.ex (.rd 3) (.ex (.rd 4) (.ex (.rd 9) .nil))))) (.ex (.tup .nil))))) (.cons (.ret (.cst (.bool false)))
  .nil) .nil)
def q_law_1_9 : Cs := (.ifs (.or (.p2 .ne (.ex (.call 18 (.ex (.rd 3) (.ex (.rd 4) (.ex (.rd 7) .nil))))) (.ex (.tup .nil))) (.not (.call 26 (.ex (.call 19 (.ex (.p1 .rev (.pk 3)) (.ex (.rd 4) .nil))) (.ex (.p1 .len (.pk 7)) .nil))))) (.cons (.ret (.cst (.bool false)))
  .nil) .nil)
def b_law_1 : Cb := (.cons q_law_1_1
  (.cons q_law_1_2
  (.cons q_law_1_3
  (.cons q_law_1_4
  (.cons q_law_1_5
  (.cons q_law_1_6
  (.cons q_law_1_7
  (.cons q_law_1_8
  (.cons q_law_1_9
  .nil)))))))))
def l_law_1 : Cs := (.for (.nm 2) (.rng (.cons (.cst (.int (3))) .nil)) b_law_1)
def s_law_3 : Cs := (.par [(4, false), (10, false)] (.cons (.p2 .add (.ex (.cst (.int (2)))) (.ex (.call 24 (.bw 1 (.ex (.cst (.int (5))) .nil))))) (.cons (.p2 .add (.ex (.cst (.int (1)))) (.ex (.call 24 (.bw 1 (.ex (.cst (.int (6))) .nil))))) .nil)))
def s_law_4 : Cs := (.asg 8 false (.tup (.cons (.call 19 (.ex (.tup (.cons (.cst (.int (1))) (.cons (.rd 10) (.cons (.cst (.int (1))) .nil)))) (.ex (.rd 4) .nil))) (.cons (.call 20 (.ex (.tup (.cons (.rd 10) (.cons (.cst (.int (1))) (.cons (.cst (.int (1))) .nil)))) (.ex (.rd 4) .nil))) (.cons (.call 19 (.ex (.tup (.cons (.cst (.int (2))) (.cons (.cst (.int (2))) (.cons (.cst (.int (2))) .nil)))) (.ex (.cst (.int (2))) .nil))) (.cons (.call 21 (.ex (.tup (.cons (.cst (.int (2))) (.cons (.cst (.int (1))) (.cons (.cst (.int (2))) .nil)))) (.ex (.cst (.int (2))) .nil))) .nil))))))
def e_law_2 : Ce := (.lc (.nm 12) (.rng (.cons (.rd 10) .nil)) (.cons (.p2 .eq (.ex (.p2 .mod (.pk 12) (.pk 4))) (.ex (.p2 .sub (.pk 4) (.ex (.cst (.int (1))))))) .nil) (.tup (.cons (.rd 12) (.cons (.cst (.int (0))) (.cons (.cst (.int (0))) .nil)))) [12])
def s_law_5 : Cs := (.asg 11 false (.p1 .tup (.ex e_law_2)))
def s_law_6 : Cs := (.ret (.and (.call 26 (.ex (.tup (.cons (.p2 .ix (.pk 8) (.ex (.cst (.int (0))))) (.cons (.p2 .ix (.pk 8) (.ex (.cst (.int (2))))) (.cons (.p2 .ix (.pk 8) (.ex (.cst (.int (3))))) .nil)))) (.ex (.tup (.cons (.p2 .fdiv (.pk 10) (.pk 4)) (.cons (.cst (.int (7))) (.cons (.cst (.int (1))) .nil)))) .nil))) (.and (.p2 .eq (.ex (.p1 .len (.ex (.p2 .ix (.pk 8) (.ex (.cst (.int (1)))))))) (.ex (.p1 .len (.pk 11)))) (.p2 .le (.ex (.p2 .ix (.pk 8) (.ex (.cst (.int (1)))))) (.pk 11)))))
def c_law : Fn := ⟨"law", 1, 13, [],
  (.cons s_law_1
  (.cons l_law_1
  (.cons s_law_3
  (.cons s_law_4
  (.cons s_law_5
  (.cons s_law_6
  .nil))))))⟩
def fns : List Fn := [c_is_whole, c_fits_whole, c_is_tuple_of, c_is_rising, c_fits_cell, c_fits_sides, c_need_box, c_is_in, c_cells_in, c_row_from, c_rows_in, c_fits_marks, c_need_marks, c_need_few, c_hits_in, c_fewest_in, c_most_in, c_full_rows, c_open_rows, c_fewest_meeting, c_first_meeting, c_most_marks, c_some_marks, c_law_cup, c_law_roll, c_law_some, c_law_same, c_law_cells, c_law_rows, c_law_first, c_law]
def cons : List D := [(.int (100)), (.int (6)), (.int (12)), (.tuple [(.tuple [(.int (0)), (.int (0)), (.int (1))]), (.tuple [(.int (0)), (.int (1)), (.int (-1))]), (.tuple [(.int (0)), (.int (1)), (.int (0))]), (.tuple [(.int (0)), (.int (1)), (.int (1))]), (.tuple [(.int (1)), (.int (-1)), (.int (-1))]), (.tuple [(.int (1)), (.int (-1)), (.int (0))]), (.tuple [(.int (1)), (.int (-1)), (.int (1))]), (.tuple [(.int (1)), (.int (0)), (.int (-1))]), (.tuple [(.int (1)), (.int (0)), (.int (0))]), (.tuple [(.int (1)), (.int (0)), (.int (1))]), (.tuple [(.int (1)), (.int (1)), (.int (-1))]), (.tuple [(.int (1)), (.int (1)), (.int (0))]), (.tuple [(.int (1)), (.int (1)), (.int (1))])])]
theorem G_FAR : cons[0]? = some (.int (100)) := (rfl)
theorem G_SIDE : cons[1]? = some (.int (6)) := (rfl)
theorem G_FEW : cons[2]? = some (.int (12)) := (rfl)
theorem G_WAYS : cons[3]? = some (.tuple [(.tuple [(.int (0)), (.int (0)), (.int (1))]), (.tuple [(.int (0)), (.int (1)), (.int (-1))]), (.tuple [(.int (0)), (.int (1)), (.int (0))]), (.tuple [(.int (0)), (.int (1)), (.int (1))]), (.tuple [(.int (1)), (.int (-1)), (.int (-1))]), (.tuple [(.int (1)), (.int (-1)), (.int (0))]), (.tuple [(.int (1)), (.int (-1)), (.int (1))]), (.tuple [(.int (1)), (.int (0)), (.int (-1))]), (.tuple [(.int (1)), (.int (0)), (.int (0))]), (.tuple [(.int (1)), (.int (0)), (.int (1))]), (.tuple [(.int (1)), (.int (1)), (.int (-1))]), (.tuple [(.int (1)), (.int (1)), (.int (0))]), (.tuple [(.int (1)), (.int (1)), (.int (1))])]) := (rfl)
def R : Nat → Calls := run cons fns
theorem R_is_whole (n : Nat) (ss : List Sl) : R (n + 1) 0 ss = callFn cons (R n) c_is_whole ss := (rfl)
theorem R_fits_whole (n : Nat) (ss : List Sl) : R (n + 1) 1 ss = callFn cons (R n) c_fits_whole ss := (rfl)
theorem R_is_tuple_of (n : Nat) (ss : List Sl) : R (n + 1) 2 ss = callFn cons (R n) c_is_tuple_of ss := (rfl)
theorem R_is_rising (n : Nat) (ss : List Sl) : R (n + 1) 3 ss = callFn cons (R n) c_is_rising ss := (rfl)
theorem R_fits_cell (n : Nat) (ss : List Sl) : R (n + 1) 4 ss = callFn cons (R n) c_fits_cell ss := (rfl)
theorem R_fits_sides (n : Nat) (ss : List Sl) : R (n + 1) 5 ss = callFn cons (R n) c_fits_sides ss := (rfl)
theorem R_need_box (n : Nat) (ss : List Sl) : R (n + 1) 6 ss = callFn cons (R n) c_need_box ss := (rfl)
theorem R_is_in (n : Nat) (ss : List Sl) : R (n + 1) 7 ss = callFn cons (R n) c_is_in ss := (rfl)
theorem R_cells_in (n : Nat) (ss : List Sl) : R (n + 1) 8 ss = callFn cons (R n) c_cells_in ss := (rfl)
theorem R_row_from (n : Nat) (ss : List Sl) : R (n + 1) 9 ss = callFn cons (R n) c_row_from ss := (rfl)
theorem R_rows_in (n : Nat) (ss : List Sl) : R (n + 1) 10 ss = callFn cons (R n) c_rows_in ss := (rfl)
theorem R_fits_marks (n : Nat) (ss : List Sl) : R (n + 1) 11 ss = callFn cons (R n) c_fits_marks ss := (rfl)
theorem R_need_marks (n : Nat) (ss : List Sl) : R (n + 1) 12 ss = callFn cons (R n) c_need_marks ss := (rfl)
theorem R_need_few (n : Nat) (ss : List Sl) : R (n + 1) 13 ss = callFn cons (R n) c_need_few ss := (rfl)
theorem R_hits_in (n : Nat) (ss : List Sl) : R (n + 1) 14 ss = callFn cons (R n) c_hits_in ss := (rfl)
theorem R_fewest_in (n : Nat) (ss : List Sl) : R (n + 1) 15 ss = callFn cons (R n) c_fewest_in ss := (rfl)
theorem R_most_in (n : Nat) (ss : List Sl) : R (n + 1) 16 ss = callFn cons (R n) c_most_in ss := (rfl)
theorem R_full_rows (n : Nat) (ss : List Sl) : R (n + 1) 17 ss = callFn cons (R n) c_full_rows ss := (rfl)
theorem R_open_rows (n : Nat) (ss : List Sl) : R (n + 1) 18 ss = callFn cons (R n) c_open_rows ss := (rfl)
theorem R_fewest_meeting (n : Nat) (ss : List Sl) : R (n + 1) 19 ss = callFn cons (R n) c_fewest_meeting ss := (rfl)
theorem R_first_meeting (n : Nat) (ss : List Sl) : R (n + 1) 20 ss = callFn cons (R n) c_first_meeting ss := (rfl)
theorem R_most_marks (n : Nat) (ss : List Sl) : R (n + 1) 21 ss = callFn cons (R n) c_most_marks ss := (rfl)
theorem R_some_marks (n : Nat) (ss : List Sl) : R (n + 1) 22 ss = callFn cons (R n) c_some_marks ss := (rfl)
theorem R_law_cup (n : Nat) (ss : List Sl) : R (n + 1) 23 ss = callFn cons (R n) c_law_cup ss := (rfl)
theorem R_law_roll (n : Nat) (ss : List Sl) : R (n + 1) 24 ss = callFn cons (R n) c_law_roll ss := (rfl)
theorem R_law_some (n : Nat) (ss : List Sl) : R (n + 1) 25 ss = callFn cons (R n) c_law_some ss := (rfl)
theorem R_law_same (n : Nat) (ss : List Sl) : R (n + 1) 26 ss = callFn cons (R n) c_law_same ss := (rfl)
theorem R_law_cells (n : Nat) (ss : List Sl) : R (n + 1) 27 ss = callFn cons (R n) c_law_cells ss := (rfl)
theorem R_law_rows (n : Nat) (ss : List Sl) : R (n + 1) 28 ss = callFn cons (R n) c_law_rows ss := (rfl)
theorem R_law_first (n : Nat) (ss : List Sl) : R (n + 1) 29 ss = callFn cons (R n) c_law_first ss := (rfl)
theorem R_law (n : Nat) (ss : List Sl) : R (n + 1) 30 ss = callFn cons (R n) c_law ss := (rfl)
end G94
end

section
set_option maxRecDepth 100000
set_option linter.all false
namespace G94
open Ky PySem PySem.Spec L2
def topS (i : Nat) : Stmt := PySem.Challenge.pw_cubeyard_k94_whole_fewest_cells_that_mee.main.body.getD i (.Pass ⟨0, 0, 0, 0⟩)
def fnN : List Str := ["is_whole", "fits_whole", "is_tuple_of", "is_rising", "fits_cell", "fits_sides", "need_box", "is_in", "cells_in", "row_from", "rows_in", "fits_marks", "need_marks", "need_few", "hits_in", "fewest_in", "most_in", "full_rows", "open_rows", "fewest_meeting", "first_meeting", "most_marks", "some_marks", "_law_cup", "_law_roll", "_law_some", "_law_same", "_law_cells", "_law_rows", "_law_first", "law"]
def conN : List Str := ["FAR", "SIDE", "FEW", "WAYS"]
abbrev s_is_whole : Stmt := topS 8
theorem k_is_whole : chkF fnN conN ["value"] ["value"] c_is_whole s_is_whole = true := by decide +kernel
theorem sc_is_whole : FnScope ["value"] ["value"] (defScope s_is_whole) := scope_of (by decide +kernel)
abbrev s_fits_whole : Stmt := topS 9
theorem k_fits_whole : chkF fnN conN ["value", "low", "high"] ["value", "low", "high"] c_fits_whole s_fits_whole = true := by decide +kernel
theorem sc_fits_whole : FnScope ["value", "low", "high"] ["value", "low", "high"] (defScope s_fits_whole) := scope_of (by decide +kernel)
abbrev s_is_tuple_of : Stmt := topS 10
theorem k_is_tuple_of : chkF fnN conN ["value", "least", "most"] ["value", "least", "most"] c_is_tuple_of s_is_tuple_of = true := by decide +kernel
theorem sc_is_tuple_of : FnScope ["value", "least", "most"] ["value", "least", "most"] (defScope s_is_tuple_of) := scope_of (by decide +kernel)
abbrev s_is_rising : Stmt := topS 11
theorem k_is_rising : chkF fnN conN ["values", "one", "other"] ["values"] c_is_rising s_is_rising = true := by decide +kernel
theorem sc_is_rising : FnScope ["values", "one", "other"] ["values"] (defScope s_is_rising) := scope_of (by decide +kernel)
abbrev s_fits_cell : Stmt := topS 12
theorem k_fits_cell : chkF fnN conN ["value", "one"] ["value"] c_fits_cell s_fits_cell = true := by decide +kernel
theorem sc_fits_cell : FnScope ["value", "one"] ["value"] (defScope s_fits_cell) := scope_of (by decide +kernel)
abbrev s_fits_sides : Stmt := topS 17
theorem k_fits_sides : chkF fnN conN ["value", "one"] ["value"] c_fits_sides s_fits_sides = true := by decide +kernel
theorem sc_fits_sides : FnScope ["value", "one"] ["value"] (defScope s_fits_sides) := scope_of (by decide +kernel)
abbrev s_need_box : Stmt := topS 18
theorem k_need_box : chkF fnN conN ["sides", "long"] ["sides", "long"] c_need_box s_need_box = true := by decide +kernel
theorem sc_need_box : FnScope ["sides", "long"] ["sides", "long"] (defScope s_need_box) := scope_of (by decide +kernel)
abbrev s_is_in : Stmt := topS 19
theorem k_is_in : chkF fnN conN ["sides", "cell", "place", "side"] ["sides", "cell"] c_is_in s_is_in = true := by decide +kernel
theorem sc_is_in : FnScope ["sides", "cell", "place", "side"] ["sides", "cell"] (defScope s_is_in) := scope_of (by decide +kernel)
abbrev s_cells_in : Stmt := topS 20
theorem k_cells_in : chkF fnN conN ["sides", "rows", "right", "up", "high"] ["sides"] c_cells_in s_cells_in = true := by decide +kernel
theorem sc_cells_in : FnScope ["sides", "rows", "right", "up", "high"] ["sides"] (defScope s_cells_in) := scope_of (by decide +kernel)
abbrev s_row_from : Stmt := topS 21
theorem k_row_from : chkF fnN conN ["cell", "way", "long", "place", "step", "at"] ["cell", "way", "long"] c_row_from s_row_from = true := by decide +kernel
theorem sc_row_from : FnScope ["cell", "way", "long", "place", "step", "at"] ["cell", "way", "long"] (defScope s_row_from) := scope_of (by decide +kernel)
abbrev s_rows_in : Stmt := topS 22
theorem k_rows_in : chkF fnN conN ["sides", "long", "found", "cell", "rows", "way", "row"] ["sides", "long"] c_rows_in s_rows_in = true := by decide +kernel
theorem sc_rows_in : FnScope ["sides", "long", "found", "cell", "rows", "way", "row"] ["sides", "long"] (defScope s_rows_in) := scope_of (by decide +kernel)
abbrev s_fits_marks : Stmt := topS 23
theorem k_fits_marks : chkF fnN conN ["sides", "value", "one"] ["sides", "value"] c_fits_marks s_fits_marks = true := by decide +kernel
theorem sc_fits_marks : FnScope ["sides", "value", "one"] ["sides", "value"] (defScope s_fits_marks) := scope_of (by decide +kernel)
abbrev s_need_marks : Stmt := topS 24
theorem k_need_marks : chkF fnN conN ["sides", "long", "value"] ["sides", "long", "value"] c_need_marks s_need_marks = true := by decide +kernel
theorem sc_need_marks : FnScope ["sides", "long", "value"] ["sides", "long", "value"] (defScope s_need_marks) := scope_of (by decide +kernel)
abbrev s_need_few : Stmt := topS 25
theorem k_need_few : chkF fnN conN ["sides"] ["sides"] c_need_few s_need_few = true := by decide +kernel
theorem sc_need_few : FnScope ["sides"] ["sides"] (defScope s_need_few) := scope_of (by decide +kernel)
abbrev s_hits_in : Stmt := topS 26
theorem k_hits_in : chkF fnN conN ["rows", "cells", "row", "cell"] ["rows", "cells"] c_hits_in s_hits_in = true := by decide +kernel
theorem sc_hits_in : FnScope ["rows", "cells", "row", "cell"] ["rows", "cells"] (defScope s_hits_in) := scope_of (by decide +kernel)
abbrev s_fewest_in : Stmt := topS 27
theorem k_fewest_in : chkF fnN conN ["sides", "long", "cells", "line", "good", "own", "left", "later", "cell"] ["sides", "long"] c_fewest_in s_fewest_in = true := by decide +kernel
theorem sc_fewest_in : FnScope ["sides", "long", "cells", "line", "good", "own", "left", "later", "cell"] ["sides", "long"] (defScope s_fewest_in) := scope_of (by decide +kernel)
abbrev s_most_in : Stmt := topS 28
theorem k_most_in : chkF fnN conN ["sides", "long", "out", "cell"] ["sides", "long"] c_most_in s_most_in = true := by decide +kernel
theorem sc_most_in : FnScope ["sides", "long", "out", "cell"] ["sides", "long"] (defScope s_most_in) := scope_of (by decide +kernel)
abbrev s_full_rows : Stmt := topS 29
theorem k_full_rows : chkF fnN conN ["sides", "long", "marks", "row", "cell"] ["sides", "long", "marks"] c_full_rows s_full_rows = true := by decide +kernel
theorem sc_full_rows : FnScope ["sides", "long", "marks", "row", "cell"] ["sides", "long", "marks"] (defScope s_full_rows) := scope_of (by decide +kernel)
abbrev s_open_rows : Stmt := topS 30
theorem k_open_rows : chkF fnN conN ["sides", "long", "marks"] ["sides", "long", "marks"] c_open_rows s_open_rows = true := by decide +kernel
theorem sc_open_rows : FnScope ["sides", "long", "marks"] ["sides", "long", "marks"] (defScope s_open_rows) := scope_of (by decide +kernel)
abbrev s_fewest_meeting : Stmt := topS 31
theorem k_fewest_meeting : chkF fnN conN ["sides", "long"] ["sides", "long"] c_fewest_meeting s_fewest_meeting = true := by decide +kernel
theorem sc_fewest_meeting : FnScope ["sides", "long"] ["sides", "long"] (defScope s_fewest_meeting) := scope_of (by decide +kernel)
abbrev s_first_meeting : Stmt := topS 32
theorem k_first_meeting : chkF fnN conN ["sides", "long"] ["sides", "long"] c_first_meeting s_first_meeting = true := by decide +kernel
theorem sc_first_meeting : FnScope ["sides", "long"] ["sides", "long"] (defScope s_first_meeting) := scope_of (by decide +kernel)
abbrev s_most_marks : Stmt := topS 33
theorem k_most_marks : chkF fnN conN ["sides", "long"] ["sides", "long"] c_most_marks s_most_marks = true := by decide +kernel
theorem sc_most_marks : FnScope ["sides", "long"] ["sides", "long"] (defScope s_most_marks) := scope_of (by decide +kernel)
abbrev s_some_marks : Stmt := topS 34
theorem k_some_marks : chkF fnN conN ["sides", "long"] ["sides", "long"] c_some_marks s_some_marks = true := by decide +kernel
theorem sc_some_marks : FnScope ["sides", "long"] ["sides", "long"] (defScope s_some_marks) := scope_of (by decide +kernel)
abbrev s_law_cup : Stmt := topS 36
theorem k_law_cup : chkF fnN conN ["script", "cell"] ["script"] c_law_cup s_law_cup = true := by decide +kernel
theorem sc_law_cup : FnScope ["script", "cell"] ["script"] (defScope s_law_cup) := scope_of (by decide +kernel)
abbrev s_law_roll : Stmt := topS 37
theorem k_law_roll : chkF fnN conN ["cup", "many", "found", "deep"] ["cup", "many"] c_law_roll s_law_roll = true := by decide +kernel
theorem sc_law_roll : FnScope ["cup", "many", "found", "deep"] ["cup", "many"] (defScope s_law_roll) := scope_of (by decide +kernel)
abbrev s_law_some : Stmt := topS 38
theorem k_law_some : chkF fnN conN ["cup", "things"] ["cup", "things"] c_law_some s_law_some = true := by decide +kernel
theorem sc_law_some : FnScope ["cup", "things"] ["cup", "things"] (defScope s_law_some) := scope_of (by decide +kernel)
abbrev s_law_same : Stmt := topS 39
theorem k_law_same : chkF fnN conN ["told", "due", "at"] ["told", "due"] c_law_same s_law_same = true := by decide +kernel
theorem sc_law_same : FnScope ["told", "due", "at"] ["told", "due"] (defScope s_law_same) := scope_of (by decide +kernel)
abbrev s_law_cells : Stmt := topS 40
theorem k_law_cells : chkF fnN conN ["sides", "found", "right", "up", "high"] ["sides"] c_law_cells s_law_cells = true := by decide +kernel
theorem sc_law_cells : FnScope ["sides", "found", "right", "up", "high"] ["sides"] (defScope s_law_cells) := scope_of (by decide +kernel)
abbrev s_law_rows : Stmt := topS 41
theorem k_law_rows : chkF fnN conN ["sides", "long", "cells", "found", "q", "r", "s", "a", "b", "c", "row", "at", "cell"] ["sides", "long"] c_law_rows s_law_rows = true := by decide +kernel
theorem sc_law_rows : FnScope ["sides", "long", "cells", "found", "q", "r", "s", "a", "b", "c", "row", "at", "cell"] ["sides", "long"] (defScope s_law_rows) := scope_of (by decide +kernel)
abbrev s_law_first : Stmt := topS 42
theorem k_law_first : chkF fnN conN ["rows", "cells", "line", "many", "own", "row", "cell", "later"] ["rows", "cells"] c_law_first s_law_first = true := by decide +kernel
theorem sc_law_first : FnScope ["rows", "cells", "line", "many", "own", "row", "cell", "later"] ["rows", "cells"] (defScope s_law_first) := scope_of (by decide +kernel)
abbrev s_law : Stmt := topS 43
theorem k_law : chkF fnN conN ["script", "cup", "turn", "sides", "long", "rows", "cells", "due", "told", "marks", "many", "first", "at"] ["script"] c_law s_law = true := by decide +kernel
theorem sc_law : FnScope ["script", "cup", "turn", "sides", "long", "rows", "cells", "due", "told", "marks", "many", "first", "at"] ["script"] (defScope s_law) := scope_of (by decide +kernel)
end G94
end

section
set_option maxRecDepth 100000
set_option linter.all false
namespace G94
open Ky PySem PySem.W
theorem r_is_whole (n : Nat) (i : Int) : R (n + 1) 0 [.fz (Datum.toD i)] = some (.fz (Datum.toD true), [.fz (Datum.toD i)]) := rfl
theorem r_fits_whole (n : Nat) (i l h : Int) : R (n + 2) 1 [.fz (Datum.toD i), .fz (Datum.toD l), .fz (Datum.toD h)] = some (.fz (Datum.toD (decide (l ≤ i) && decide (i ≤ h))), [.fz (Datum.toD i), .fz (Datum.toD l), .fz (Datum.toD h)]) := by
  simp [R_fits_whole, c_fits_whole, -Option.map_eq_some_iff, -List.map_map, -Option.bind_some, -Option.map_some, obind_some, omap_some, ex_fn, ev_cst, ev_glb, ev_rd, ev_p1, ev_p2, ev_p3, ev_chain, ev_and, ev_or, ev_not, ev_ite, ev_tup, ev_lst, ev_call, ev_mut, ev_oex, ev_opk, ev_peek, ev_snil, ev_scons, ev_anil, ev_aex, ev_abw, ev_cnil, ev_ccons, ev_iex, ev_irng, ev_izip, ev_ienum, ex_asg, ex_unp, ex_par, ex_aug, ex_expr, ex_mutS, ex_ret, ex_ifs, ex_pass, ex_nil, ex_cons, ev_ssnil, ev_sscons, st_lc, st_lc2, st_dc, obind_ite, omap_ite, bnd_ite, mp_ite, bnd_some, mp_some, takeAll, aget_val, aget_own, ownS_list, ownS_dD, nodupN, ownsOf, putBack, dat_fz, dat_ow, thaw_fz, thaw_ow, thaw_emp, get_val, get_at, pre2, owOk, P1.fresh, P2.fresh, P3.fresh, Sl.mk, wipeE, unwipe, ownFree_eq, notOw_fz, notOw_emp, notOw_none, notOw_nz, nz_some, nz_none, bindT_nm, bindT_raw, bindT_pair, bindT_t3, bindT_t4, store, storeS, lcL_nil, lcL_cons, lcPut_some, lcPut_none, f2_eq_nil, f2_ne_nil, int_fold, bool_fold, str_fold, dp_int, dp_bool, dp_str, dp_unit, dp_list, dp_tup, dp_pair, dp_t3, f1_neg, f1_abs, f1_int, f2_add, f2_sub, f2_lt, f2_le, f2_gt, f2_ge, f2_mn2, f2_mx2, augD_add, augD_sub, f1_all, f1_any, f1_sum, f2_in_list, f2_notin_list, f2_in_tup, f2_notin_tup, f2_eq, f2_ne, f2_in_dict, f2_notin_dict, f2_ix_dict, f3_get, pre2_get, pre3_get, preM_append, preM_pop, preM_extend, preM_set, preM_addI, preM_popK, preM_update, fM_pop, fM_popK, r_is_whole]
theorem r_is_tuple_of_t3 {α β γ : Type} [DecidableEq α] [Datum α] [DecidableEq β] [Datum β] [DecidableEq γ] [Datum γ] (n : Nat) (p : T3 α β γ) (l h : Int) : R (n + 1) 2 [.fz (Datum.toD p), .fz (Datum.toD l), .fz (Datum.toD h)] = some (.fz (Datum.toD (decide (l ≤ 3) && decide (3 ≤ h))), [.fz (Datum.toD p), .fz (Datum.toD l), .fz (Datum.toD h)]) := by
  simp [R_is_tuple_of, c_is_tuple_of, -Option.map_eq_some_iff, -List.map_map, -Option.bind_some, -Option.map_some, obind_some, omap_some, ex_fn, ev_cst, ev_glb, ev_rd, ev_p1, ev_p2, ev_p3, ev_chain, ev_and, ev_or, ev_not, ev_ite, ev_tup, ev_lst, ev_call, ev_mut, ev_oex, ev_opk, ev_peek, ev_snil, ev_scons, ev_anil, ev_aex, ev_abw, ev_cnil, ev_ccons, ev_iex, ev_irng, ev_izip, ev_ienum, ex_asg, ex_unp, ex_par, ex_aug, ex_expr, ex_mutS, ex_ret, ex_ifs, ex_pass, ex_nil, ex_cons, ev_ssnil, ev_sscons, st_lc, st_lc2, st_dc, obind_ite, omap_ite, bnd_ite, mp_ite, bnd_some, mp_some, takeAll, aget_val, aget_own, ownS_list, ownS_dD, nodupN, ownsOf, putBack, dat_fz, dat_ow, thaw_fz, thaw_ow, thaw_emp, get_val, get_at, pre2, owOk, P1.fresh, P2.fresh, P3.fresh, Sl.mk, wipeE, unwipe, ownFree_eq, notOw_fz, notOw_emp, notOw_none, notOw_nz, nz_some, nz_none, bindT_nm, bindT_raw, bindT_pair, bindT_t3, bindT_t4, store, storeS, lcL_nil, lcL_cons, lcPut_some, lcPut_none, f2_eq_nil, f2_ne_nil, int_fold, bool_fold, str_fold, dp_int, dp_bool, dp_str, dp_unit, dp_list, dp_tup, dp_pair, dp_t3, f1_neg, f1_abs, f1_int, f2_add, f2_sub, f2_lt, f2_le, f2_gt, f2_ge, f2_mn2, f2_mx2, augD_add, augD_sub, f1_all, f1_any, f1_sum, f2_in_list, f2_notin_list, f2_in_tup, f2_notin_tup, f2_eq, f2_ne, f2_in_dict, f2_notin_dict, f2_ix_dict, f3_get, pre2_get, pre3_get, preM_append, preM_pop, preM_extend, preM_set, preM_addI, preM_popK, preM_update, fM_pop, fM_popK]
def okN (i : Int) : Bool := decide (-100 ≤ i) && decide (i ≤ 100)
def okC (c : Cell) : Bool := okN c.a && (okN c.b && okN c.c)
theorem r_fits_cell (n : Nat) (c : Cell) : R (n + 3) 4 [.fz (Datum.toD c)] = some (.fz (Datum.toD (okC c)), [.fz (Datum.toD c)]) := by
  have h : evalE cons (R (n + 2)) e_fits_cell_1 [.fz (Datum.toD c), .emp] = some (.ow (Datum.toD [okN c.a, okN c.b, okN c.c]), [.fz (Datum.toD c), .emp]) := by
    simp [e_fits_cell_1, ev_lc, -Option.map_eq_some_iff, -List.map_map, -Option.bind_some, -Option.map_some, obind_some, omap_some, ex_fn, ev_cst, ev_glb, ev_rd, ev_p1, ev_p2, ev_p3, ev_chain, ev_and, ev_or, ev_not, ev_ite, ev_tup, ev_lst, ev_call, ev_mut, ev_oex, ev_opk, ev_peek, ev_snil, ev_scons, ev_anil, ev_aex, ev_abw, ev_cnil, ev_ccons, ev_iex, ev_irng, ev_izip, ev_ienum, ex_asg, ex_unp, ex_par, ex_aug, ex_expr, ex_mutS, ex_ret, ex_ifs, ex_pass, ex_nil, ex_cons, ev_ssnil, ev_sscons, st_lc, st_lc2, st_dc, obind_ite, omap_ite, bnd_ite, mp_ite, bnd_some, mp_some, takeAll, aget_val, aget_own, ownS_list, ownS_dD, nodupN, ownsOf, putBack, dat_fz, dat_ow, thaw_fz, thaw_ow, thaw_emp, get_val, get_at, pre2, owOk, P1.fresh, P2.fresh, P3.fresh, Sl.mk, wipeE, unwipe, ownFree_eq, notOw_fz, notOw_emp, notOw_none, notOw_nz, nz_some, nz_none, bindT_nm, bindT_raw, bindT_pair, bindT_t3, bindT_t4, store, storeS, lcL_nil, lcL_cons, lcPut_some, lcPut_none, f2_eq_nil, f2_ne_nil, int_fold, bool_fold, str_fold, dp_int, dp_bool, dp_str, dp_unit, dp_list, dp_tup, dp_pair, dp_t3, f1_neg, f1_abs, f1_int, f2_add, f2_sub, f2_lt, f2_le, f2_gt, f2_ge, f2_mn2, f2_mx2, augD_add, augD_sub, f1_all, f1_any, f1_sum, f2_in_list, f2_notin_list, f2_in_tup, f2_notin_tup, f2_eq, f2_ne, f2_in_dict, f2_notin_dict, f2_ix_dict, f3_get, pre2_get, pre3_get, preM_append, preM_pop, preM_extend, preM_set, preM_addI, preM_popK, preM_update, fM_pop, fM_popK, G_FAR, r_fits_whole, okN]
  simp [R_fits_cell, c_fits_cell, -Option.map_eq_some_iff, -List.map_map, -Option.bind_some, -Option.map_some, obind_some, omap_some, ex_fn, ev_cst, ev_glb, ev_rd, ev_p1, ev_p2, ev_p3, ev_chain, ev_and, ev_or, ev_not, ev_ite, ev_tup, ev_lst, ev_call, ev_mut, ev_oex, ev_opk, ev_peek, ev_snil, ev_scons, ev_anil, ev_aex, ev_abw, ev_cnil, ev_ccons, ev_iex, ev_irng, ev_izip, ev_ienum, ex_asg, ex_unp, ex_par, ex_aug, ex_expr, ex_mutS, ex_ret, ex_ifs, ex_pass, ex_nil, ex_cons, ev_ssnil, ev_sscons, st_lc, st_lc2, st_dc, obind_ite, omap_ite, bnd_ite, mp_ite, bnd_some, mp_some, takeAll, aget_val, aget_own, ownS_list, ownS_dD, nodupN, ownsOf, putBack, dat_fz, dat_ow, thaw_fz, thaw_ow, thaw_emp, get_val, get_at, pre2, owOk, P1.fresh, P2.fresh, P3.fresh, Sl.mk, wipeE, unwipe, ownFree_eq, notOw_fz, notOw_emp, notOw_none, notOw_nz, nz_some, nz_none, bindT_nm, bindT_raw, bindT_pair, bindT_t3, bindT_t4, store, storeS, lcL_nil, lcL_cons, lcPut_some, lcPut_none, f2_eq_nil, f2_ne_nil, int_fold, bool_fold, str_fold, dp_int, dp_bool, dp_str, dp_unit, dp_list, dp_tup, dp_pair, dp_t3, f1_neg, f1_abs, f1_int, f2_add, f2_sub, f2_lt, f2_le, f2_gt, f2_ge, f2_mn2, f2_mx2, augD_add, augD_sub, f1_all, f1_any, f1_sum, f2_in_list, f2_notin_list, f2_in_tup, f2_notin_tup, f2_eq, f2_ne, f2_in_dict, f2_notin_dict, f2_ix_dict, f3_get, pre2_get, pre3_get, preM_append, preM_pop, preM_extend, preM_set, preM_addI, preM_popK, preM_update, fM_pop, fM_popK, r_is_tuple_of_t3, h, okC]
def okS (c : Cell) : Bool := (decide (1 ≤ c.a) && decide (c.a ≤ 6)) && ((decide (1 ≤ c.b) && decide (c.b ≤ 6)) && (decide (1 ≤ c.c) && decide (c.c ≤ 6)))
theorem r_fits_sides (n : Nat) (c : Cell) : R (n + 3) 5 [.fz (Datum.toD c)] = some (.fz (Datum.toD (okS c)), [.fz (Datum.toD c)]) := by
  have h : evalE cons (R (n + 2)) e_fits_sides_1 [.fz (Datum.toD c), .emp] = some (.ow (Datum.toD [decide (1 ≤ c.a) && decide (c.a ≤ 6), decide (1 ≤ c.b) && decide (c.b ≤ 6), decide (1 ≤ c.c) && decide (c.c ≤ 6)]), [.fz (Datum.toD c), .emp]) := by
    simp [e_fits_sides_1, ev_lc, -Option.map_eq_some_iff, -List.map_map, -Option.bind_some, -Option.map_some, obind_some, omap_some, ex_fn, ev_cst, ev_glb, ev_rd, ev_p1, ev_p2, ev_p3, ev_chain, ev_and, ev_or, ev_not, ev_ite, ev_tup, ev_lst, ev_call, ev_mut, ev_oex, ev_opk, ev_peek, ev_snil, ev_scons, ev_anil, ev_aex, ev_abw, ev_cnil, ev_ccons, ev_iex, ev_irng, ev_izip, ev_ienum, ex_asg, ex_unp, ex_par, ex_aug, ex_expr, ex_mutS, ex_ret, ex_ifs, ex_pass, ex_nil, ex_cons, ev_ssnil, ev_sscons, st_lc, st_lc2, st_dc, obind_ite, omap_ite, bnd_ite, mp_ite, bnd_some, mp_some, takeAll, aget_val, aget_own, ownS_list, ownS_dD, nodupN, ownsOf, putBack, dat_fz, dat_ow, thaw_fz, thaw_ow, thaw_emp, get_val, get_at, pre2, owOk, P1.fresh, P2.fresh, P3.fresh, Sl.mk, wipeE, unwipe, ownFree_eq, notOw_fz, notOw_emp, notOw_none, notOw_nz, nz_some, nz_none, bindT_nm, bindT_raw, bindT_pair, bindT_t3, bindT_t4, store, storeS, lcL_nil, lcL_cons, lcPut_some, lcPut_none, f2_eq_nil, f2_ne_nil, int_fold, bool_fold, str_fold, dp_int, dp_bool, dp_str, dp_unit, dp_list, dp_tup, dp_pair, dp_t3, f1_neg, f1_abs, f1_int, f2_add, f2_sub, f2_lt, f2_le, f2_gt, f2_ge, f2_mn2, f2_mx2, augD_add, augD_sub, f1_all, f1_any, f1_sum, f2_in_list, f2_notin_list, f2_in_tup, f2_notin_tup, f2_eq, f2_ne, f2_in_dict, f2_notin_dict, f2_ix_dict, f3_get, pre2_get, pre3_get, preM_append, preM_pop, preM_extend, preM_set, preM_addI, preM_popK, preM_update, fM_pop, fM_popK, G_SIDE, r_fits_whole]
  simp [R_fits_sides, c_fits_sides, -Option.map_eq_some_iff, -List.map_map, -Option.bind_some, -Option.map_some, obind_some, omap_some, ex_fn, ev_cst, ev_glb, ev_rd, ev_p1, ev_p2, ev_p3, ev_chain, ev_and, ev_or, ev_not, ev_ite, ev_tup, ev_lst, ev_call, ev_mut, ev_oex, ev_opk, ev_peek, ev_snil, ev_scons, ev_anil, ev_aex, ev_abw, ev_cnil, ev_ccons, ev_iex, ev_irng, ev_izip, ev_ienum, ex_asg, ex_unp, ex_par, ex_aug, ex_expr, ex_mutS, ex_ret, ex_ifs, ex_pass, ex_nil, ex_cons, ev_ssnil, ev_sscons, st_lc, st_lc2, st_dc, obind_ite, omap_ite, bnd_ite, mp_ite, bnd_some, mp_some, takeAll, aget_val, aget_own, ownS_list, ownS_dD, nodupN, ownsOf, putBack, dat_fz, dat_ow, thaw_fz, thaw_ow, thaw_emp, get_val, get_at, pre2, owOk, P1.fresh, P2.fresh, P3.fresh, Sl.mk, wipeE, unwipe, ownFree_eq, notOw_fz, notOw_emp, notOw_none, notOw_nz, nz_some, nz_none, bindT_nm, bindT_raw, bindT_pair, bindT_t3, bindT_t4, store, storeS, lcL_nil, lcL_cons, lcPut_some, lcPut_none, f2_eq_nil, f2_ne_nil, int_fold, bool_fold, str_fold, dp_int, dp_bool, dp_str, dp_unit, dp_list, dp_tup, dp_pair, dp_t3, f1_neg, f1_abs, f1_int, f2_add, f2_sub, f2_lt, f2_le, f2_gt, f2_ge, f2_mn2, f2_mx2, augD_add, augD_sub, f1_all, f1_any, f1_sum, f2_in_list, f2_notin_list, f2_in_tup, f2_notin_tup, f2_eq, f2_ne, f2_in_dict, f2_notin_dict, f2_ix_dict, f3_get, pre2_get, pre3_get, preM_append, preM_pop, preM_extend, preM_set, preM_addI, preM_popK, preM_update, fM_pop, fM_popK, r_is_tuple_of_t3, h, okS]
theorem r_need_box (n : Nat) (c : Cell) (l : Int) (h : okS c = true) (hl : 2 ≤ l ∧ l ≤ 6) : R (n + 4) 6 [.fz (Datum.toD c), .fz (Datum.toD l)] = some (.fz .none, [.fz (Datum.toD c), .fz (Datum.toD l)]) := by
  simp [R_need_box, c_need_box, -Option.map_eq_some_iff, -List.map_map, -Option.bind_some, -Option.map_some, obind_some, omap_some, ex_fn, ev_cst, ev_glb, ev_rd, ev_p1, ev_p2, ev_p3, ev_chain, ev_and, ev_or, ev_not, ev_ite, ev_tup, ev_lst, ev_call, ev_mut, ev_oex, ev_opk, ev_peek, ev_snil, ev_scons, ev_anil, ev_aex, ev_abw, ev_cnil, ev_ccons, ev_iex, ev_irng, ev_izip, ev_ienum, ex_asg, ex_unp, ex_par, ex_aug, ex_expr, ex_mutS, ex_ret, ex_ifs, ex_pass, ex_nil, ex_cons, ev_ssnil, ev_sscons, st_lc, st_lc2, st_dc, obind_ite, omap_ite, bnd_ite, mp_ite, bnd_some, mp_some, takeAll, aget_val, aget_own, ownS_list, ownS_dD, nodupN, ownsOf, putBack, dat_fz, dat_ow, thaw_fz, thaw_ow, thaw_emp, get_val, get_at, pre2, owOk, P1.fresh, P2.fresh, P3.fresh, Sl.mk, wipeE, unwipe, ownFree_eq, notOw_fz, notOw_emp, notOw_none, notOw_nz, nz_some, nz_none, bindT_nm, bindT_raw, bindT_pair, bindT_t3, bindT_t4, store, storeS, lcL_nil, lcL_cons, lcPut_some, lcPut_none, f2_eq_nil, f2_ne_nil, int_fold, bool_fold, str_fold, dp_int, dp_bool, dp_str, dp_unit, dp_list, dp_tup, dp_pair, dp_t3, f1_neg, f1_abs, f1_int, f2_add, f2_sub, f2_lt, f2_le, f2_gt, f2_ge, f2_mn2, f2_mx2, augD_add, augD_sub, f1_all, f1_any, f1_sum, f2_in_list, f2_notin_list, f2_in_tup, f2_notin_tup, f2_eq, f2_ne, f2_in_dict, f2_notin_dict, f2_ix_dict, f3_get, pre2_get, pre3_get, preM_append, preM_pop, preM_extend, preM_set, preM_addI, preM_popK, preM_update, fM_pop, fM_popK, r_fits_sides, r_fits_whole, G_SIDE, h, hl]
def inB (s c : Cell) : Bool := (decide (0 ≤ c.a) && decide (c.a < s.a)) && ((decide (0 ≤ c.b) && decide (c.b < s.b)) && (decide (0 ≤ c.c) && decide (c.c < s.c)))
theorem r_is_in (n : Nat) (s c : Cell) : R (n + 1) 7 [.fz (Datum.toD s), .fz (Datum.toD c)] = some (.fz (Datum.toD (inB s c)), [.fz (Datum.toD s), .fz (Datum.toD c)]) := by
  have h : evalE cons (R n) e_is_in_1 [.fz (Datum.toD s), .fz (Datum.toD c), .emp, .emp] = some (.ow (Datum.toD [decide (0 ≤ c.a) && decide (c.a < s.a), decide (0 ≤ c.b) && decide (c.b < s.b), decide (0 ≤ c.c) && decide (c.c < s.c)]), [.fz (Datum.toD s), .fz (Datum.toD c), .emp, .emp]) := by
    simp [e_is_in_1, ev_lc, -Option.map_eq_some_iff, -List.map_map, -Option.bind_some, -Option.map_some, obind_some, omap_some, ex_fn, ev_cst, ev_glb, ev_rd, ev_p1, ev_p2, ev_p3, ev_chain, ev_and, ev_or, ev_not, ev_ite, ev_tup, ev_lst, ev_call, ev_mut, ev_oex, ev_opk, ev_peek, ev_snil, ev_scons, ev_anil, ev_aex, ev_abw, ev_cnil, ev_ccons, ev_iex, ev_irng, ev_izip, ev_ienum, ex_asg, ex_unp, ex_par, ex_aug, ex_expr, ex_mutS, ex_ret, ex_ifs, ex_pass, ex_nil, ex_cons, ev_ssnil, ev_sscons, st_lc, st_lc2, st_dc, obind_ite, omap_ite, bnd_ite, mp_ite, bnd_some, mp_some, takeAll, aget_val, aget_own, ownS_list, ownS_dD, nodupN, ownsOf, putBack, dat_fz, dat_ow, thaw_fz, thaw_ow, thaw_emp, get_val, get_at, pre2, owOk, P1.fresh, P2.fresh, P3.fresh, Sl.mk, wipeE, unwipe, ownFree_eq, notOw_fz, notOw_emp, notOw_none, notOw_nz, nz_some, nz_none, bindT_nm, bindT_raw, bindT_pair, bindT_t3, bindT_t4, store, storeS, lcL_nil, lcL_cons, lcPut_some, lcPut_none, f2_eq_nil, f2_ne_nil, int_fold, bool_fold, str_fold, dp_int, dp_bool, dp_str, dp_unit, dp_list, dp_tup, dp_pair, dp_t3, f1_neg, f1_abs, f1_int, f2_add, f2_sub, f2_lt, f2_le, f2_gt, f2_ge, f2_mn2, f2_mx2, augD_add, augD_sub, f1_all, f1_any, f1_sum, f2_in_list, f2_notin_list, f2_in_tup, f2_notin_tup, f2_eq, f2_ne, f2_in_dict, f2_notin_dict, f2_ix_dict, f3_get, pre2_get, pre3_get, preM_append, preM_pop, preM_extend, preM_set, preM_addI, preM_popK, preM_update, fM_pop, fM_popK]
  simp [R_is_in, c_is_in, -Option.map_eq_some_iff, -List.map_map, -Option.bind_some, -Option.map_some, obind_some, omap_some, ex_fn, ev_cst, ev_glb, ev_rd, ev_p1, ev_p2, ev_p3, ev_chain, ev_and, ev_or, ev_not, ev_ite, ev_tup, ev_lst, ev_call, ev_mut, ev_oex, ev_opk, ev_peek, ev_snil, ev_scons, ev_anil, ev_aex, ev_abw, ev_cnil, ev_ccons, ev_iex, ev_irng, ev_izip, ev_ienum, ex_asg, ex_unp, ex_par, ex_aug, ex_expr, ex_mutS, ex_ret, ex_ifs, ex_pass, ex_nil, ex_cons, ev_ssnil, ev_sscons, st_lc, st_lc2, st_dc, obind_ite, omap_ite, bnd_ite, mp_ite, bnd_some, mp_some, takeAll, aget_val, aget_own, ownS_list, ownS_dD, nodupN, ownsOf, putBack, dat_fz, dat_ow, thaw_fz, thaw_ow, thaw_emp, get_val, get_at, pre2, owOk, P1.fresh, P2.fresh, P3.fresh, Sl.mk, wipeE, unwipe, ownFree_eq, notOw_fz, notOw_emp, notOw_none, notOw_nz, nz_some, nz_none, bindT_nm, bindT_raw, bindT_pair, bindT_t3, bindT_t4, store, storeS, lcL_nil, lcL_cons, lcPut_some, lcPut_none, f2_eq_nil, f2_ne_nil, int_fold, bool_fold, str_fold, dp_int, dp_bool, dp_str, dp_unit, dp_list, dp_tup, dp_pair, dp_t3, f1_neg, f1_abs, f1_int, f2_add, f2_sub, f2_lt, f2_le, f2_gt, f2_ge, f2_mn2, f2_mx2, augD_add, augD_sub, f1_all, f1_any, f1_sum, f2_in_list, f2_notin_list, f2_in_tup, f2_notin_tup, f2_eq, f2_ne, f2_in_dict, f2_notin_dict, f2_ix_dict, f3_get, pre2_get, pre3_get, preM_append, preM_pop, preM_extend, preM_set, preM_addI, preM_popK, preM_update, fM_pop, fM_popK, h, inB]

end G94
end

section
set_option maxRecDepth 100000
set_option linter.all false
namespace G94
open Ky PySem PySem.W
def rc (s : Cell) : List (Int × Int) := (rangeT 0 s.a).flatMap fun x => (rangeT 0 s.b).map fun y => (x, y)
def cellsIn (s : Cell) : List Cell := (rc s).flatMap fun p => (rangeT 0 s.c).map fun z => ⟨p.1, p.2, z⟩
theorem len_fm {α β γ : Type} (xs : List α) (ys : List β) (f : α → β → γ) : (xs.flatMap fun x => ys.map fun y => f x y).length = xs.length * ys.length := by
  induction xs with
  | nil => simp
  | cons x xs ih => rw [List.flatMap_cons, List.length_append, ih, List.length_map, List.length_cons, Nat.succ_mul]; omega
theorem okS_le {s : Cell} (h : okS s = true) : 1 ≤ s.a ∧ s.a ≤ 6 ∧ 1 ≤ s.b ∧ s.b ≤ 6 ∧ 1 ≤ s.c ∧ s.c ≤ 6 := by
  unfold okS at h
  simp only [Bool.and_eq_true, decide_eq_true_eq] at h
  omega
theorem len_rc (s : Cell) : (rc s).length = s.a.toNat * s.b.toNat := by
  unfold rc; rw [len_fm, length_rangeT, length_rangeT]; simp
theorem len_cellsIn (s : Cell) : (cellsIn s).length = s.a.toNat * s.b.toNat * s.c.toNat := by
  unfold cellsIn; rw [len_fm, length_rangeT, len_rc]; simp
theorem len_cells_le {s : Cell} (h : okS s = true) : (rc s).length ≤ 36 ∧ (cellsIn s).length ≤ 216 := by
  have := okS_le h
  rw [len_cellsIn, len_rc]
  have h1 : s.a.toNat * s.b.toNat ≤ 6 * 6 := Nat.mul_le_mul (by omega) (by omega)
  exact ⟨h1, Nat.le_trans (Nat.mul_le_mul h1 (show s.c.toNat ≤ 6 by omega)) (by decide)⟩
theorem r_cells_in (n : Nat) (s : Cell) (h : okS s = true) : R (n + 1) 8 [.fz (Datum.toD s)] = some (.ow (Datum.toD (cellsIn s)), [.fz (Datum.toD s)]) := by
  have hs := okS_le h
  have hl := len_cells_le h
  have fa : fits62 s.a = true := fits62_of (by omega) (by omega)
  have fb : fits62 s.b = true := fits62_of (by omega) (by omega)
  have fc : fits62 s.c = true := fits62_of (by omega) (by omega)
  have h1 : evalE cons (R n) e_cells_in_1 [.fz (Datum.toD s), .emp, .emp, .emp, .emp] = some (.ow (Datum.toD (rc s)), [.fz (Datum.toD s), .emp, .emp, .emp, .emp]) := by
    refine (lc2_M (g := fun x => (rangeT 0 s.b).map fun y => (x, y)) (xs := rangeT 0 s.a) (by simp [-Option.map_eq_some_iff, -List.map_map, -Option.bind_some, -Option.map_some, obind_some, omap_some, ex_fn, ev_cst, ev_glb, ev_rd, ev_p1, ev_p2, ev_p3, ev_chain, ev_and, ev_or, ev_not, ev_ite, ev_tup, ev_lst, ev_call, ev_mut, ev_oex, ev_opk, ev_peek, ev_snil, ev_scons, ev_anil, ev_aex, ev_abw, ev_cnil, ev_ccons, ev_iex, ev_irng, ev_izip, ev_ienum, ex_asg, ex_unp, ex_par, ex_aug, ex_expr, ex_mutS, ex_ret, ex_ifs, ex_pass, ex_nil, ex_cons, ev_ssnil, ev_sscons, st_lc, st_lc2, st_dc, obind_ite, omap_ite, bnd_ite, mp_ite, bnd_some, mp_some, takeAll, aget_val, aget_own, ownS_list, ownS_dD, nodupN, ownsOf, putBack, dat_fz, dat_ow, thaw_fz, thaw_ow, thaw_emp, get_val, get_at, pre2, owOk, P1.fresh, P2.fresh, P3.fresh, Sl.mk, wipeE, unwipe, ownFree_eq, notOw_fz, notOw_emp, notOw_none, notOw_nz, nz_some, nz_none, bindT_nm, bindT_raw, bindT_pair, bindT_t3, bindT_t4, store, storeS, lcL_nil, lcL_cons, lcPut_some, lcPut_none, f2_eq_nil, f2_ne_nil, int_fold, bool_fold, str_fold, dp_int, dp_bool, dp_str, dp_unit, dp_list, dp_tup, dp_pair, dp_t3, f1_neg, f1_abs, f1_int, f2_add, f2_sub, f2_lt, f2_le, f2_gt, f2_ge, f2_mn2, f2_mx2, augD_add, augD_sub, f1_all, f1_any, f1_sum, f2_in_list, f2_notin_list, f2_in_tup, f2_notin_tup, f2_eq, f2_ne, f2_in_dict, f2_notin_dict, f2_ix_dict, f3_get, pre2_get, pre3_get, preM_append, preM_pop, preM_extend, preM_set, preM_addI, preM_popK, preM_update, fM_pop, fM_popK, rangeOf_1, fa]; rfl) rfl (Nat.le_trans hl.1 (by decide)) ?_).trans (by simp [-Option.map_eq_some_iff, -List.map_map, -Option.bind_some, -Option.map_some, obind_some, omap_some, ex_fn, ev_cst, ev_glb, ev_rd, ev_p1, ev_p2, ev_p3, ev_chain, ev_and, ev_or, ev_not, ev_ite, ev_tup, ev_lst, ev_call, ev_mut, ev_oex, ev_opk, ev_peek, ev_snil, ev_scons, ev_anil, ev_aex, ev_abw, ev_cnil, ev_ccons, ev_iex, ev_irng, ev_izip, ev_ienum, ex_asg, ex_unp, ex_par, ex_aug, ex_expr, ex_mutS, ex_ret, ex_ifs, ex_pass, ex_nil, ex_cons, ev_ssnil, ev_sscons, st_lc, st_lc2, st_dc, obind_ite, omap_ite, bnd_ite, mp_ite, bnd_some, mp_some, takeAll, aget_val, aget_own, ownS_list, ownS_dD, nodupN, ownsOf, putBack, dat_fz, dat_ow, thaw_fz, thaw_ow, thaw_emp, get_val, get_at, pre2, owOk, P1.fresh, P2.fresh, P3.fresh, Sl.mk, wipeE, unwipe, ownFree_eq, notOw_fz, notOw_emp, notOw_none, notOw_nz, nz_some, nz_none, bindT_nm, bindT_raw, bindT_pair, bindT_t3, bindT_t4, store, storeS, lcL_nil, lcL_cons, lcPut_some, lcPut_none, f2_eq_nil, f2_ne_nil, int_fold, bool_fold, str_fold, dp_int, dp_bool, dp_str, dp_unit, dp_list, dp_tup, dp_pair, dp_t3, f1_neg, f1_abs, f1_int, f2_add, f2_sub, f2_lt, f2_le, f2_gt, f2_ge, f2_mn2, f2_mx2, augD_add, augD_sub, f1_all, f1_any, f1_sum, f2_in_list, f2_notin_list, f2_in_tup, f2_notin_tup, f2_eq, f2_ne, f2_in_dict, f2_notin_dict, f2_ix_dict, f3_get, pre2_get, pre3_get, preM_append, preM_pop, preM_extend, preM_set, preM_addI, preM_popK, preM_update, fM_pop, fM_popK, rc])
    intro x _
    simp [-Option.map_eq_some_iff, -List.map_map, -Option.bind_some, -Option.map_some, obind_some, omap_some, ex_fn, ev_cst, ev_glb, ev_rd, ev_p1, ev_p2, ev_p3, ev_chain, ev_and, ev_or, ev_not, ev_ite, ev_tup, ev_lst, ev_call, ev_mut, ev_oex, ev_opk, ev_peek, ev_snil, ev_scons, ev_anil, ev_aex, ev_abw, ev_cnil, ev_ccons, ev_iex, ev_irng, ev_izip, ev_ienum, ex_asg, ex_unp, ex_par, ex_aug, ex_expr, ex_mutS, ex_ret, ex_ifs, ex_pass, ex_nil, ex_cons, ev_ssnil, ev_sscons, st_lc, st_lc2, st_dc, obind_ite, omap_ite, bnd_ite, mp_ite, bnd_some, mp_some, takeAll, aget_val, aget_own, ownS_list, ownS_dD, nodupN, ownsOf, putBack, dat_fz, dat_ow, thaw_fz, thaw_ow, thaw_emp, get_val, get_at, pre2, owOk, P1.fresh, P2.fresh, P3.fresh, Sl.mk, wipeE, unwipe, ownFree_eq, notOw_fz, notOw_emp, notOw_none, notOw_nz, nz_some, nz_none, bindT_nm, bindT_raw, bindT_pair, bindT_t3, bindT_t4, store, storeS, lcL_nil, lcL_cons, lcPut_some, lcPut_none, f2_eq_nil, f2_ne_nil, int_fold, bool_fold, str_fold, dp_int, dp_bool, dp_str, dp_unit, dp_list, dp_tup, dp_pair, dp_t3, f1_neg, f1_abs, f1_int, f2_add, f2_sub, f2_lt, f2_le, f2_gt, f2_ge, f2_mn2, f2_mx2, augD_add, augD_sub, f1_all, f1_any, f1_sum, f2_in_list, f2_notin_list, f2_in_tup, f2_notin_tup, f2_eq, f2_ne, f2_in_dict, f2_notin_dict, f2_ix_dict, f3_get, pre2_get, pre3_get, preM_append, preM_pop, preM_extend, preM_set, preM_addI, preM_popK, preM_update, fM_pop, fM_popK, rangeOf_1, fb]
    rw [lcLoop_M (g := fun y => (x, y)) (fun y _ => by simp [-Option.map_eq_some_iff, -List.map_map, -Option.bind_some, -Option.map_some, obind_some, omap_some, ex_fn, ev_cst, ev_glb, ev_rd, ev_p1, ev_p2, ev_p3, ev_chain, ev_and, ev_or, ev_not, ev_ite, ev_tup, ev_lst, ev_call, ev_mut, ev_oex, ev_opk, ev_peek, ev_snil, ev_scons, ev_anil, ev_aex, ev_abw, ev_cnil, ev_ccons, ev_iex, ev_irng, ev_izip, ev_ienum, ex_asg, ex_unp, ex_par, ex_aug, ex_expr, ex_mutS, ex_ret, ex_ifs, ex_pass, ex_nil, ex_cons, ev_ssnil, ev_sscons, st_lc, st_lc2, st_dc, obind_ite, omap_ite, bnd_ite, mp_ite, bnd_some, mp_some, takeAll, aget_val, aget_own, ownS_list, ownS_dD, nodupN, ownsOf, putBack, dat_fz, dat_ow, thaw_fz, thaw_ow, thaw_emp, get_val, get_at, pre2, owOk, P1.fresh, P2.fresh, P3.fresh, Sl.mk, wipeE, unwipe, ownFree_eq, notOw_fz, notOw_emp, notOw_none, notOw_nz, nz_some, nz_none, bindT_nm, bindT_raw, bindT_pair, bindT_t3, bindT_t4, store, storeS, lcL_nil, lcL_cons, lcPut_some, lcPut_none, f2_eq_nil, f2_ne_nil, int_fold, bool_fold, str_fold, dp_int, dp_bool, dp_str, dp_unit, dp_list, dp_tup, dp_pair, dp_t3, f1_neg, f1_abs, f1_int, f2_add, f2_sub, f2_lt, f2_le, f2_gt, f2_ge, f2_mn2, f2_mx2, augD_add, augD_sub, f1_all, f1_any, f1_sum, f2_in_list, f2_notin_list, f2_in_tup, f2_notin_tup, f2_eq, f2_ne, f2_in_dict, f2_notin_dict, f2_ix_dict, f3_get, pre2_get, pre3_get, preM_append, preM_pop, preM_extend, preM_set, preM_addI, preM_popK, preM_update, fM_pop, fM_popK])]
    simp [-Option.map_eq_some_iff, -List.map_map, -Option.bind_some, -Option.map_some, obind_some, omap_some, ex_fn, ev_cst, ev_glb, ev_rd, ev_p1, ev_p2, ev_p3, ev_chain, ev_and, ev_or, ev_not, ev_ite, ev_tup, ev_lst, ev_call, ev_mut, ev_oex, ev_opk, ev_peek, ev_snil, ev_scons, ev_anil, ev_aex, ev_abw, ev_cnil, ev_ccons, ev_iex, ev_irng, ev_izip, ev_ienum, ex_asg, ex_unp, ex_par, ex_aug, ex_expr, ex_mutS, ex_ret, ex_ifs, ex_pass, ex_nil, ex_cons, ev_ssnil, ev_sscons, st_lc, st_lc2, st_dc, obind_ite, omap_ite, bnd_ite, mp_ite, bnd_some, mp_some, takeAll, aget_val, aget_own, ownS_list, ownS_dD, nodupN, ownsOf, putBack, dat_fz, dat_ow, thaw_fz, thaw_ow, thaw_emp, get_val, get_at, pre2, owOk, P1.fresh, P2.fresh, P3.fresh, Sl.mk, wipeE, unwipe, ownFree_eq, notOw_fz, notOw_emp, notOw_none, notOw_nz, nz_some, nz_none, bindT_nm, bindT_raw, bindT_pair, bindT_t3, bindT_t4, store, storeS, lcL_nil, lcL_cons, lcPut_some, lcPut_none, f2_eq_nil, f2_ne_nil, int_fold, bool_fold, str_fold, dp_int, dp_bool, dp_str, dp_unit, dp_list, dp_tup, dp_pair, dp_t3, f1_neg, f1_abs, f1_int, f2_add, f2_sub, f2_lt, f2_le, f2_gt, f2_ge, f2_mn2, f2_mx2, augD_add, augD_sub, f1_all, f1_any, f1_sum, f2_in_list, f2_notin_list, f2_in_tup, f2_notin_tup, f2_eq, f2_ne, f2_in_dict, f2_notin_dict, f2_ix_dict, f3_get, pre2_get, pre3_get, preM_append, preM_pop, preM_extend, preM_set, preM_addI, preM_popK, preM_update, fM_pop, fM_popK]
  have h2 : evalE cons (R n) e_cells_in_2 [.fz (Datum.toD s), .fz (Datum.toD (rc s)), .emp, .emp, .emp] = some (.ow (Datum.toD (cellsIn s)), [.fz (Datum.toD s), .fz (Datum.toD (rc s)), .emp, .emp, .emp]) := by
    refine (lc2_M (g := fun p : Int × Int => (rangeT 0 s.c).map fun z => T3.mk p.1 p.2 z) (xs := rc s) (by simp [-Option.map_eq_some_iff, -List.map_map, -Option.bind_some, -Option.map_some, obind_some, omap_some, ex_fn, ev_cst, ev_glb, ev_rd, ev_p1, ev_p2, ev_p3, ev_chain, ev_and, ev_or, ev_not, ev_ite, ev_tup, ev_lst, ev_call, ev_mut, ev_oex, ev_opk, ev_peek, ev_snil, ev_scons, ev_anil, ev_aex, ev_abw, ev_cnil, ev_ccons, ev_iex, ev_irng, ev_izip, ev_ienum, ex_asg, ex_unp, ex_par, ex_aug, ex_expr, ex_mutS, ex_ret, ex_ifs, ex_pass, ex_nil, ex_cons, ev_ssnil, ev_sscons, st_lc, st_lc2, st_dc, obind_ite, omap_ite, bnd_ite, mp_ite, bnd_some, mp_some, takeAll, aget_val, aget_own, ownS_list, ownS_dD, nodupN, ownsOf, putBack, dat_fz, dat_ow, thaw_fz, thaw_ow, thaw_emp, get_val, get_at, pre2, owOk, P1.fresh, P2.fresh, P3.fresh, Sl.mk, wipeE, unwipe, ownFree_eq, notOw_fz, notOw_emp, notOw_none, notOw_nz, nz_some, nz_none, bindT_nm, bindT_raw, bindT_pair, bindT_t3, bindT_t4, store, storeS, lcL_nil, lcL_cons, lcPut_some, lcPut_none, f2_eq_nil, f2_ne_nil, int_fold, bool_fold, str_fold, dp_int, dp_bool, dp_str, dp_unit, dp_list, dp_tup, dp_pair, dp_t3, f1_neg, f1_abs, f1_int, f2_add, f2_sub, f2_lt, f2_le, f2_gt, f2_ge, f2_mn2, f2_mx2, augD_add, augD_sub, f1_all, f1_any, f1_sum, f2_in_list, f2_notin_list, f2_in_tup, f2_notin_tup, f2_eq, f2_ne, f2_in_dict, f2_notin_dict, f2_ix_dict, f3_get, pre2_get, pre3_get, preM_append, preM_pop, preM_extend, preM_set, preM_addI, preM_popK, preM_update, fM_pop, fM_popK]; rfl) rfl (Nat.le_trans hl.2 (by decide)) ?_).trans (by simp [-Option.map_eq_some_iff, -List.map_map, -Option.bind_some, -Option.map_some, obind_some, omap_some, ex_fn, ev_cst, ev_glb, ev_rd, ev_p1, ev_p2, ev_p3, ev_chain, ev_and, ev_or, ev_not, ev_ite, ev_tup, ev_lst, ev_call, ev_mut, ev_oex, ev_opk, ev_peek, ev_snil, ev_scons, ev_anil, ev_aex, ev_abw, ev_cnil, ev_ccons, ev_iex, ev_irng, ev_izip, ev_ienum, ex_asg, ex_unp, ex_par, ex_aug, ex_expr, ex_mutS, ex_ret, ex_ifs, ex_pass, ex_nil, ex_cons, ev_ssnil, ev_sscons, st_lc, st_lc2, st_dc, obind_ite, omap_ite, bnd_ite, mp_ite, bnd_some, mp_some, takeAll, aget_val, aget_own, ownS_list, ownS_dD, nodupN, ownsOf, putBack, dat_fz, dat_ow, thaw_fz, thaw_ow, thaw_emp, get_val, get_at, pre2, owOk, P1.fresh, P2.fresh, P3.fresh, Sl.mk, wipeE, unwipe, ownFree_eq, notOw_fz, notOw_emp, notOw_none, notOw_nz, nz_some, nz_none, bindT_nm, bindT_raw, bindT_pair, bindT_t3, bindT_t4, store, storeS, lcL_nil, lcL_cons, lcPut_some, lcPut_none, f2_eq_nil, f2_ne_nil, int_fold, bool_fold, str_fold, dp_int, dp_bool, dp_str, dp_unit, dp_list, dp_tup, dp_pair, dp_t3, f1_neg, f1_abs, f1_int, f2_add, f2_sub, f2_lt, f2_le, f2_gt, f2_ge, f2_mn2, f2_mx2, augD_add, augD_sub, f1_all, f1_any, f1_sum, f2_in_list, f2_notin_list, f2_in_tup, f2_notin_tup, f2_eq, f2_ne, f2_in_dict, f2_notin_dict, f2_ix_dict, f3_get, pre2_get, pre3_get, preM_append, preM_pop, preM_extend, preM_set, preM_addI, preM_popK, preM_update, fM_pop, fM_popK, cellsIn])
    intro x _
    simp [-Option.map_eq_some_iff, -List.map_map, -Option.bind_some, -Option.map_some, obind_some, omap_some, ex_fn, ev_cst, ev_glb, ev_rd, ev_p1, ev_p2, ev_p3, ev_chain, ev_and, ev_or, ev_not, ev_ite, ev_tup, ev_lst, ev_call, ev_mut, ev_oex, ev_opk, ev_peek, ev_snil, ev_scons, ev_anil, ev_aex, ev_abw, ev_cnil, ev_ccons, ev_iex, ev_irng, ev_izip, ev_ienum, ex_asg, ex_unp, ex_par, ex_aug, ex_expr, ex_mutS, ex_ret, ex_ifs, ex_pass, ex_nil, ex_cons, ev_ssnil, ev_sscons, st_lc, st_lc2, st_dc, obind_ite, omap_ite, bnd_ite, mp_ite, bnd_some, mp_some, takeAll, aget_val, aget_own, ownS_list, ownS_dD, nodupN, ownsOf, putBack, dat_fz, dat_ow, thaw_fz, thaw_ow, thaw_emp, get_val, get_at, pre2, owOk, P1.fresh, P2.fresh, P3.fresh, Sl.mk, wipeE, unwipe, ownFree_eq, notOw_fz, notOw_emp, notOw_none, notOw_nz, nz_some, nz_none, bindT_nm, bindT_raw, bindT_pair, bindT_t3, bindT_t4, store, storeS, lcL_nil, lcL_cons, lcPut_some, lcPut_none, f2_eq_nil, f2_ne_nil, int_fold, bool_fold, str_fold, dp_int, dp_bool, dp_str, dp_unit, dp_list, dp_tup, dp_pair, dp_t3, f1_neg, f1_abs, f1_int, f2_add, f2_sub, f2_lt, f2_le, f2_gt, f2_ge, f2_mn2, f2_mx2, augD_add, augD_sub, f1_all, f1_any, f1_sum, f2_in_list, f2_notin_list, f2_in_tup, f2_notin_tup, f2_eq, f2_ne, f2_in_dict, f2_notin_dict, f2_ix_dict, f3_get, pre2_get, pre3_get, preM_append, preM_pop, preM_extend, preM_set, preM_addI, preM_popK, preM_update, fM_pop, fM_popK, rangeOf_1, fc]
    rw [lcLoop_M (g := fun z => T3.mk x.1 x.2 z) (fun y _ => by simp [-Option.map_eq_some_iff, -List.map_map, -Option.bind_some, -Option.map_some, obind_some, omap_some, ex_fn, ev_cst, ev_glb, ev_rd, ev_p1, ev_p2, ev_p3, ev_chain, ev_and, ev_or, ev_not, ev_ite, ev_tup, ev_lst, ev_call, ev_mut, ev_oex, ev_opk, ev_peek, ev_snil, ev_scons, ev_anil, ev_aex, ev_abw, ev_cnil, ev_ccons, ev_iex, ev_irng, ev_izip, ev_ienum, ex_asg, ex_unp, ex_par, ex_aug, ex_expr, ex_mutS, ex_ret, ex_ifs, ex_pass, ex_nil, ex_cons, ev_ssnil, ev_sscons, st_lc, st_lc2, st_dc, obind_ite, omap_ite, bnd_ite, mp_ite, bnd_some, mp_some, takeAll, aget_val, aget_own, ownS_list, ownS_dD, nodupN, ownsOf, putBack, dat_fz, dat_ow, thaw_fz, thaw_ow, thaw_emp, get_val, get_at, pre2, owOk, P1.fresh, P2.fresh, P3.fresh, Sl.mk, wipeE, unwipe, ownFree_eq, notOw_fz, notOw_emp, notOw_none, notOw_nz, nz_some, nz_none, bindT_nm, bindT_raw, bindT_pair, bindT_t3, bindT_t4, store, storeS, lcL_nil, lcL_cons, lcPut_some, lcPut_none, f2_eq_nil, f2_ne_nil, int_fold, bool_fold, str_fold, dp_int, dp_bool, dp_str, dp_unit, dp_list, dp_tup, dp_pair, dp_t3, f1_neg, f1_abs, f1_int, f2_add, f2_sub, f2_lt, f2_le, f2_gt, f2_ge, f2_mn2, f2_mx2, augD_add, augD_sub, f1_all, f1_any, f1_sum, f2_in_list, f2_notin_list, f2_in_tup, f2_notin_tup, f2_eq, f2_ne, f2_in_dict, f2_notin_dict, f2_ix_dict, f3_get, pre2_get, pre3_get, preM_append, preM_pop, preM_extend, preM_set, preM_addI, preM_popK, preM_update, fM_pop, fM_popK])]
    simp [-Option.map_eq_some_iff, -List.map_map, -Option.bind_some, -Option.map_some, obind_some, omap_some, ex_fn, ev_cst, ev_glb, ev_rd, ev_p1, ev_p2, ev_p3, ev_chain, ev_and, ev_or, ev_not, ev_ite, ev_tup, ev_lst, ev_call, ev_mut, ev_oex, ev_opk, ev_peek, ev_snil, ev_scons, ev_anil, ev_aex, ev_abw, ev_cnil, ev_ccons, ev_iex, ev_irng, ev_izip, ev_ienum, ex_asg, ex_unp, ex_par, ex_aug, ex_expr, ex_mutS, ex_ret, ex_ifs, ex_pass, ex_nil, ex_cons, ev_ssnil, ev_sscons, st_lc, st_lc2, st_dc, obind_ite, omap_ite, bnd_ite, mp_ite, bnd_some, mp_some, takeAll, aget_val, aget_own, ownS_list, ownS_dD, nodupN, ownsOf, putBack, dat_fz, dat_ow, thaw_fz, thaw_ow, thaw_emp, get_val, get_at, pre2, owOk, P1.fresh, P2.fresh, P3.fresh, Sl.mk, wipeE, unwipe, ownFree_eq, notOw_fz, notOw_emp, notOw_none, notOw_nz, nz_some, nz_none, bindT_nm, bindT_raw, bindT_pair, bindT_t3, bindT_t4, store, storeS, lcL_nil, lcL_cons, lcPut_some, lcPut_none, f2_eq_nil, f2_ne_nil, int_fold, bool_fold, str_fold, dp_int, dp_bool, dp_str, dp_unit, dp_list, dp_tup, dp_pair, dp_t3, f1_neg, f1_abs, f1_int, f2_add, f2_sub, f2_lt, f2_le, f2_gt, f2_ge, f2_mn2, f2_mx2, augD_add, augD_sub, f1_all, f1_any, f1_sum, f2_in_list, f2_notin_list, f2_in_tup, f2_notin_tup, f2_eq, f2_ne, f2_in_dict, f2_notin_dict, f2_ix_dict, f3_get, pre2_get, pre3_get, preM_append, preM_pop, preM_extend, preM_set, preM_addI, preM_popK, preM_update, fM_pop, fM_popK]
  simp [R_cells_in, c_cells_in, -Option.map_eq_some_iff, -List.map_map, -Option.bind_some, -Option.map_some, obind_some, omap_some, ex_fn, ev_cst, ev_glb, ev_rd, ev_p1, ev_p2, ev_p3, ev_chain, ev_and, ev_or, ev_not, ev_ite, ev_tup, ev_lst, ev_call, ev_mut, ev_oex, ev_opk, ev_peek, ev_snil, ev_scons, ev_anil, ev_aex, ev_abw, ev_cnil, ev_ccons, ev_iex, ev_irng, ev_izip, ev_ienum, ex_asg, ex_unp, ex_par, ex_aug, ex_expr, ex_mutS, ex_ret, ex_ifs, ex_pass, ex_nil, ex_cons, ev_ssnil, ev_sscons, st_lc, st_lc2, st_dc, obind_ite, omap_ite, bnd_ite, mp_ite, bnd_some, mp_some, takeAll, aget_val, aget_own, ownS_list, ownS_dD, nodupN, ownsOf, putBack, dat_fz, dat_ow, thaw_fz, thaw_ow, thaw_emp, get_val, get_at, pre2, owOk, P1.fresh, P2.fresh, P3.fresh, Sl.mk, wipeE, unwipe, ownFree_eq, notOw_fz, notOw_emp, notOw_none, notOw_nz, nz_some, nz_none, bindT_nm, bindT_raw, bindT_pair, bindT_t3, bindT_t4, store, storeS, lcL_nil, lcL_cons, lcPut_some, lcPut_none, f2_eq_nil, f2_ne_nil, int_fold, bool_fold, str_fold, dp_int, dp_bool, dp_str, dp_unit, dp_list, dp_tup, dp_pair, dp_t3, f1_neg, f1_abs, f1_int, f2_add, f2_sub, f2_lt, f2_le, f2_gt, f2_ge, f2_mn2, f2_mx2, augD_add, augD_sub, f1_all, f1_any, f1_sum, f2_in_list, f2_notin_list, f2_in_tup, f2_notin_tup, f2_eq, f2_ne, f2_in_dict, f2_notin_dict, f2_ix_dict, f3_get, pre2_get, pre3_get, preM_append, preM_pop, preM_extend, preM_set, preM_addI, preM_popK, preM_update, fM_pop, fM_popK, h1, h2]
def along (c w : Cell) (k : Int) : Cell := ⟨c.a + k * w.a, c.b + k * w.b, c.c + k * w.c⟩
def rowF (c w : Cell) (l : Int) : List Cell := (rangeT 0 l).map fun k => along c w k
theorem len_rowF (c w : Cell) (l : Int) : (rowF c w l).length = l.toNat := by simp [rowF, length_rangeT]
theorem r_row_from (n : Nat) (c w : Cell) (l : Int) (h0 : 0 ≤ l) (h : l ≤ 100) : R (n + 1) 9 [.fz (Datum.toD c), .fz (Datum.toD w), .fz (Datum.toD l)] = some (.fz (Datum.toD (Tup.mk (rowF c w l))), [.fz (Datum.toD c), .fz (Datum.toD w), .fz (Datum.toD l)]) := by
  have fl : fits62 l = true := fits62_of (by omega) (by omega)
  have h1 : evalE cons (R n) e_row_from_1 [.fz (Datum.toD c), .fz (Datum.toD w), .fz (Datum.toD l), .emp, .emp, .emp] = some (.ow (Datum.toD (rowF c w l)), [.fz (Datum.toD c), .fz (Datum.toD w), .fz (Datum.toD l), .emp, .emp, .emp]) := by
    refine (lc_M (g := fun k => along c w k) (xs := rangeT 0 l) (by simp [-Option.map_eq_some_iff, -List.map_map, -Option.bind_some, -Option.map_some, obind_some, omap_some, ex_fn, ev_cst, ev_glb, ev_rd, ev_p1, ev_p2, ev_p3, ev_chain, ev_and, ev_or, ev_not, ev_ite, ev_tup, ev_lst, ev_call, ev_mut, ev_oex, ev_opk, ev_peek, ev_snil, ev_scons, ev_anil, ev_aex, ev_abw, ev_cnil, ev_ccons, ev_iex, ev_irng, ev_izip, ev_ienum, ex_asg, ex_unp, ex_par, ex_aug, ex_expr, ex_mutS, ex_ret, ex_ifs, ex_pass, ex_nil, ex_cons, ev_ssnil, ev_sscons, st_lc, st_lc2, st_dc, obind_ite, omap_ite, bnd_ite, mp_ite, bnd_some, mp_some, takeAll, aget_val, aget_own, ownS_list, ownS_dD, nodupN, ownsOf, putBack, dat_fz, dat_ow, thaw_fz, thaw_ow, thaw_emp, get_val, get_at, pre2, owOk, P1.fresh, P2.fresh, P3.fresh, Sl.mk, wipeE, unwipe, ownFree_eq, notOw_fz, notOw_emp, notOw_none, notOw_nz, nz_some, nz_none, bindT_nm, bindT_raw, bindT_pair, bindT_t3, bindT_t4, store, storeS, lcL_nil, lcL_cons, lcPut_some, lcPut_none, f2_eq_nil, f2_ne_nil, int_fold, bool_fold, str_fold, dp_int, dp_bool, dp_str, dp_unit, dp_list, dp_tup, dp_pair, dp_t3, f1_neg, f1_abs, f1_int, f2_add, f2_sub, f2_lt, f2_le, f2_gt, f2_ge, f2_mn2, f2_mx2, augD_add, augD_sub, f1_all, f1_any, f1_sum, f2_in_list, f2_notin_list, f2_in_tup, f2_notin_tup, f2_eq, f2_ne, f2_in_dict, f2_notin_dict, f2_ix_dict, f3_get, pre2_get, pre3_get, preM_append, preM_pop, preM_extend, preM_set, preM_addI, preM_popK, preM_update, fM_pop, fM_popK, rangeOf_1, fl]; rfl) rfl (by rw [length_rangeT]; unfold SL; omega) ?_).trans (by simp [-Option.map_eq_some_iff, -List.map_map, -Option.bind_some, -Option.map_some, obind_some, omap_some, ex_fn, ev_cst, ev_glb, ev_rd, ev_p1, ev_p2, ev_p3, ev_chain, ev_and, ev_or, ev_not, ev_ite, ev_tup, ev_lst, ev_call, ev_mut, ev_oex, ev_opk, ev_peek, ev_snil, ev_scons, ev_anil, ev_aex, ev_abw, ev_cnil, ev_ccons, ev_iex, ev_irng, ev_izip, ev_ienum, ex_asg, ex_unp, ex_par, ex_aug, ex_expr, ex_mutS, ex_ret, ex_ifs, ex_pass, ex_nil, ex_cons, ev_ssnil, ev_sscons, st_lc, st_lc2, st_dc, obind_ite, omap_ite, bnd_ite, mp_ite, bnd_some, mp_some, takeAll, aget_val, aget_own, ownS_list, ownS_dD, nodupN, ownsOf, putBack, dat_fz, dat_ow, thaw_fz, thaw_ow, thaw_emp, get_val, get_at, pre2, owOk, P1.fresh, P2.fresh, P3.fresh, Sl.mk, wipeE, unwipe, ownFree_eq, notOw_fz, notOw_emp, notOw_none, notOw_nz, nz_some, nz_none, bindT_nm, bindT_raw, bindT_pair, bindT_t3, bindT_t4, store, storeS, lcL_nil, lcL_cons, lcPut_some, lcPut_none, f2_eq_nil, f2_ne_nil, int_fold, bool_fold, str_fold, dp_int, dp_bool, dp_str, dp_unit, dp_list, dp_tup, dp_pair, dp_t3, f1_neg, f1_abs, f1_int, f2_add, f2_sub, f2_lt, f2_le, f2_gt, f2_ge, f2_mn2, f2_mx2, augD_add, augD_sub, f1_all, f1_any, f1_sum, f2_in_list, f2_notin_list, f2_in_tup, f2_notin_tup, f2_eq, f2_ne, f2_in_dict, f2_notin_dict, f2_ix_dict, f3_get, pre2_get, pre3_get, preM_append, preM_pop, preM_extend, preM_set, preM_addI, preM_popK, preM_update, fM_pop, fM_popK, rowF])
    intro k hk
    have hk := mem_rangeT.mp hk
    have sk : small k = true := small_ok (by omega) (by omega)
    have h2 : evalE cons (R n) e_row_from_2 [.fz (Datum.toD c), .fz (Datum.toD w), .fz (Datum.toD l), .emp, .emp, .fz (Datum.toD k)] = some (.ow (Datum.toD [c.a + k * w.a, c.b + k * w.b, c.c + k * w.c]), [.fz (Datum.toD c), .fz (Datum.toD w), .fz (Datum.toD l), .emp, .emp, .fz (Datum.toD k)]) := by
      simp [e_row_from_2, ev_lc, -Option.map_eq_some_iff, -List.map_map, -Option.bind_some, -Option.map_some, obind_some, omap_some, ex_fn, ev_cst, ev_glb, ev_rd, ev_p1, ev_p2, ev_p3, ev_chain, ev_and, ev_or, ev_not, ev_ite, ev_tup, ev_lst, ev_call, ev_mut, ev_oex, ev_opk, ev_peek, ev_snil, ev_scons, ev_anil, ev_aex, ev_abw, ev_cnil, ev_ccons, ev_iex, ev_irng, ev_izip, ev_ienum, ex_asg, ex_unp, ex_par, ex_aug, ex_expr, ex_mutS, ex_ret, ex_ifs, ex_pass, ex_nil, ex_cons, ev_ssnil, ev_sscons, st_lc, st_lc2, st_dc, obind_ite, omap_ite, bnd_ite, mp_ite, bnd_some, mp_some, takeAll, aget_val, aget_own, ownS_list, ownS_dD, nodupN, ownsOf, putBack, dat_fz, dat_ow, thaw_fz, thaw_ow, thaw_emp, get_val, get_at, pre2, owOk, P1.fresh, P2.fresh, P3.fresh, Sl.mk, wipeE, unwipe, ownFree_eq, notOw_fz, notOw_emp, notOw_none, notOw_nz, nz_some, nz_none, bindT_nm, bindT_raw, bindT_pair, bindT_t3, bindT_t4, store, storeS, lcL_nil, lcL_cons, lcPut_some, lcPut_none, f2_eq_nil, f2_ne_nil, int_fold, bool_fold, str_fold, dp_int, dp_bool, dp_str, dp_unit, dp_list, dp_tup, dp_pair, dp_t3, f1_neg, f1_abs, f1_int, f2_add, f2_sub, f2_lt, f2_le, f2_gt, f2_ge, f2_mn2, f2_mx2, augD_add, augD_sub, f1_all, f1_any, f1_sum, f2_in_list, f2_notin_list, f2_in_tup, f2_notin_tup, f2_eq, f2_ne, f2_in_dict, f2_notin_dict, f2_ix_dict, f3_get, pre2_get, pre3_get, preM_append, preM_pop, preM_extend, preM_set, preM_addI, preM_popK, preM_update, fM_pop, fM_popK, f2_mul, sk]
    simp [-Option.map_eq_some_iff, -List.map_map, -Option.bind_some, -Option.map_some, obind_some, omap_some, ex_fn, ev_cst, ev_glb, ev_rd, ev_p1, ev_p2, ev_p3, ev_chain, ev_and, ev_or, ev_not, ev_ite, ev_tup, ev_lst, ev_call, ev_mut, ev_oex, ev_opk, ev_peek, ev_snil, ev_scons, ev_anil, ev_aex, ev_abw, ev_cnil, ev_ccons, ev_iex, ev_irng, ev_izip, ev_ienum, ex_asg, ex_unp, ex_par, ex_aug, ex_expr, ex_mutS, ex_ret, ex_ifs, ex_pass, ex_nil, ex_cons, ev_ssnil, ev_sscons, st_lc, st_lc2, st_dc, obind_ite, omap_ite, bnd_ite, mp_ite, bnd_some, mp_some, takeAll, aget_val, aget_own, ownS_list, ownS_dD, nodupN, ownsOf, putBack, dat_fz, dat_ow, thaw_fz, thaw_ow, thaw_emp, get_val, get_at, pre2, owOk, P1.fresh, P2.fresh, P3.fresh, Sl.mk, wipeE, unwipe, ownFree_eq, notOw_fz, notOw_emp, notOw_none, notOw_nz, nz_some, nz_none, bindT_nm, bindT_raw, bindT_pair, bindT_t3, bindT_t4, store, storeS, lcL_nil, lcL_cons, lcPut_some, lcPut_none, f2_eq_nil, f2_ne_nil, int_fold, bool_fold, str_fold, dp_int, dp_bool, dp_str, dp_unit, dp_list, dp_tup, dp_pair, dp_t3, f1_neg, f1_abs, f1_int, f2_add, f2_sub, f2_lt, f2_le, f2_gt, f2_ge, f2_mn2, f2_mx2, augD_add, augD_sub, f1_all, f1_any, f1_sum, f2_in_list, f2_notin_list, f2_in_tup, f2_notin_tup, f2_eq, f2_ne, f2_in_dict, f2_notin_dict, f2_ix_dict, f3_get, pre2_get, pre3_get, preM_append, preM_pop, preM_extend, preM_set, preM_addI, preM_popK, preM_update, fM_pop, fM_popK, h2, tup3, along]
  simp [R_row_from, c_row_from, -Option.map_eq_some_iff, -List.map_map, -Option.bind_some, -Option.map_some, obind_some, omap_some, ex_fn, ev_cst, ev_glb, ev_rd, ev_p1, ev_p2, ev_p3, ev_chain, ev_and, ev_or, ev_not, ev_ite, ev_tup, ev_lst, ev_call, ev_mut, ev_oex, ev_opk, ev_peek, ev_snil, ev_scons, ev_anil, ev_aex, ev_abw, ev_cnil, ev_ccons, ev_iex, ev_irng, ev_izip, ev_ienum, ex_asg, ex_unp, ex_par, ex_aug, ex_expr, ex_mutS, ex_ret, ex_ifs, ex_pass, ex_nil, ex_cons, ev_ssnil, ev_sscons, st_lc, st_lc2, st_dc, obind_ite, omap_ite, bnd_ite, mp_ite, bnd_some, mp_some, takeAll, aget_val, aget_own, ownS_list, ownS_dD, nodupN, ownsOf, putBack, dat_fz, dat_ow, thaw_fz, thaw_ow, thaw_emp, get_val, get_at, pre2, owOk, P1.fresh, P2.fresh, P3.fresh, Sl.mk, wipeE, unwipe, ownFree_eq, notOw_fz, notOw_emp, notOw_none, notOw_nz, nz_some, nz_none, bindT_nm, bindT_raw, bindT_pair, bindT_t3, bindT_t4, store, storeS, lcL_nil, lcL_cons, lcPut_some, lcPut_none, f2_eq_nil, f2_ne_nil, int_fold, bool_fold, str_fold, dp_int, dp_bool, dp_str, dp_unit, dp_list, dp_tup, dp_pair, dp_t3, f1_neg, f1_abs, f1_int, f2_add, f2_sub, f2_lt, f2_le, f2_gt, f2_ge, f2_mn2, f2_mx2, augD_add, augD_sub, f1_all, f1_any, f1_sum, f2_in_list, f2_notin_list, f2_in_tup, f2_notin_tup, f2_eq, f2_ne, f2_in_dict, f2_notin_dict, f2_ix_dict, f3_get, pre2_get, pre3_get, preM_append, preM_pop, preM_extend, preM_set, preM_addI, preM_popK, preM_update, fM_pop, fM_popK, h1]

end G94
end

section
set_option maxRecDepth 100000
set_option linter.all false
namespace G94
open Ky PySem PySem.W
def WAYS : List Cell := [⟨0, 0, 1⟩, ⟨0, 1, -1⟩, ⟨0, 1, 0⟩, ⟨0, 1, 1⟩, ⟨1, -1, -1⟩, ⟨1, -1, 0⟩, ⟨1, -1, 1⟩, ⟨1, 0, -1⟩, ⟨1, 0, 0⟩, ⟨1, 0, 1⟩, ⟨1, 1, -1⟩, ⟨1, 1, 0⟩, ⟨1, 1, 1⟩]
theorem G_WAYS' : cons[3]? = some (Datum.toD (Tup.mk WAYS)) := rfl
def lastC (r : Tup Cell) : Cell := (ixOf r.items (-1)).getD ⟨0, 0, 0⟩
theorem ixLast {α : Type} (xs : List α) : ixOf xs (-1) = xs.getLast? := by
  unfold ixOf
  rw [if_neg (by decide)]
  cases xs with
  | nil => rfl
  | cons x xs =>
    rw [if_pos (by simp only [List.length_cons]; omega), List.getLast?_eq_getElem?]
    congr 1
    simp only [List.length_cons]; omega
theorem rangeT_last {l : Int} (h : 1 ≤ l) : (rangeT 0 l).getLast? = some (l - 1) := by
  unfold rangeT
  have e : (l - 0).toNat = (l.toNat - 1) + 1 := by omega
  rw [e, List.range_succ, List.map_append, List.map_cons, List.map_nil, List.getLast?_append]
  simp only [List.getLast?_singleton, Option.some_or, Option.some.injEq]
  omega
theorem lastRow (c w : Cell) {l : Int} (h : 1 ≤ l) : ixOf (rowF c w l) (-1) = some (along c w (l - 1)) := by
  rw [ixLast, rowF, List.getLast?_map, rangeT_last h]; rfl
def rowsFrom (s : Cell) (l : Int) (c : Cell) : List (Tup Cell) := (WAYS.map fun w => Tup.mk (rowF c w l)).filter fun r => inB s (lastC r)
theorem rowsFrom_len (s : Cell) (l : Int) (c : Cell) : (rowsFrom s l c).length ≤ 13 := Nat.le_trans (List.length_filter_le _ _) (by simp [WAYS])
def rows0 (s : Cell) (l : Int) : List (Tup Cell) := (cellsIn s).flatMap (rowsFrom s l)
theorem rows0_len (s : Cell) (l : Int) (h : okS s = true) : (rows0 s l).length ≤ 2808 := by
  have := length_flatMap_le (cellsIn s) (fun c _ => rowsFrom_len s l c)
  have := (len_cells_le h).2
  unfold rows0; omega
theorem mem_rowsFrom {s : Cell} {l : Int} {c : Cell} {r : Tup Cell} : r ∈ rowsFrom s l c ↔ ∃ w ∈ WAYS, r = Tup.mk (rowF c w l) ∧ inB s (lastC r) = true := by
  unfold rowsFrom
  rw [List.mem_filter, List.mem_map]
  constructor
  · rintro ⟨⟨w, hw, rfl⟩, h⟩; exact ⟨w, hw, rfl, h⟩
  · rintro ⟨w, hw, rfl, h⟩; exact ⟨⟨w, hw, rfl⟩, h⟩
theorem rows0_ne {s : Cell} {l : Int} (hl : 1 ≤ l) : ∀ r ∈ rows0 s l, r.items ≠ [] := by
  intro r hr
  obtain ⟨c, _, hr⟩ := List.mem_flatMap.mp hr
  obtain ⟨w, _, rfl, _⟩ := mem_rowsFrom.mp hr
  intro e
  have := congrArg List.length e
  rw [len_rowF] at this
  simp at this; omega
def rowsIn (s : Cell) (l : Int) : List (Tup Cell) := sortT (rows0 s l)
theorem r_rows_in (n : Nat) (s : Cell) (l : Int) (h : okS s = true) (hl : 2 ≤ l ∧ l ≤ 6) : R (n + 2) 10 [.fz (Datum.toD s), .fz (Datum.toD l)] = some (.ow (Datum.toD (rowsIn s l)), [.fz (Datum.toD s), .fz (Datum.toD l)]) := by
  obtain ⟨j', hf⟩ := forLoop_app (body := fun env => execB cons (R (n + 1)) b_rows_in_1 env) (tg := .nm 3) (S := fun (found : List (Tup Cell)) (j : Sl × Sl) => [.fz (Datum.toD s), .fz (Datum.toD l), .ow (Datum.toD found), j.1, j.2, .emp, .emp]) (g := rowsFrom s l) (m := 13) (B := SL)
    (cellsIn s) [] (.emp, .emp) (fun c _ => rowsFrom_len s l c) (fun c _ found j hB => by
      refine ⟨(.fz (Datum.toD c), .fz (Datum.toD (WAYS.map fun w => Tup.mk (rowF c w l)))), ?_⟩
      have h2 : evalE cons (R (n + 1)) e_rows_in_2 [.fz (Datum.toD s), .fz (Datum.toD l), .ow (Datum.toD found), .fz (Datum.toD c), j.2, .emp, .emp] = some (.ow (Datum.toD (WAYS.map fun w => Tup.mk (rowF c w l))), [.fz (Datum.toD s), .fz (Datum.toD l), .ow (Datum.toD found), .fz (Datum.toD c), j.2, .emp, .emp]) := by
        refine (lc_M (g := fun w => Tup.mk (rowF c w l)) (xs := WAYS) (by simp [-Option.map_eq_some_iff, -List.map_map, -Option.bind_some, -Option.map_some, obind_some, omap_some, ex_fn, ev_cst, ev_glb, ev_rd, ev_p1, ev_p2, ev_p3, ev_chain, ev_and, ev_or, ev_not, ev_ite, ev_tup, ev_lst, ev_call, ev_mut, ev_oex, ev_opk, ev_peek, ev_snil, ev_scons, ev_anil, ev_aex, ev_abw, ev_cnil, ev_ccons, ev_iex, ev_irng, ev_izip, ev_ienum, ex_asg, ex_unp, ex_par, ex_aug, ex_expr, ex_mutS, ex_ret, ex_ifs, ex_pass, ex_nil, ex_cons, ev_ssnil, ev_sscons, st_lc, st_lc2, st_dc, obind_ite, omap_ite, bnd_ite, mp_ite, bnd_some, mp_some, takeAll, aget_val, aget_own, ownS_list, ownS_dD, nodupN, ownsOf, putBack, dat_fz, dat_ow, thaw_fz, thaw_ow, thaw_emp, get_val, get_at, pre2, owOk, P1.fresh, P2.fresh, P3.fresh, Sl.mk, wipeE, unwipe, ownFree_eq, notOw_fz, notOw_emp, notOw_none, notOw_nz, nz_some, nz_none, bindT_nm, bindT_raw, bindT_pair, bindT_t3, bindT_t4, store, storeS, lcL_nil, lcL_cons, lcPut_some, lcPut_none, f2_eq_nil, f2_ne_nil, int_fold, bool_fold, str_fold, dp_int, dp_bool, dp_str, dp_unit, dp_list, dp_tup, dp_pair, dp_t3, f1_neg, f1_abs, f1_int, f2_add, f2_sub, f2_lt, f2_le, f2_gt, f2_ge, f2_mn2, f2_mx2, augD_add, augD_sub, f1_all, f1_any, f1_sum, f2_in_list, f2_notin_list, f2_in_tup, f2_notin_tup, f2_eq, f2_ne, f2_in_dict, f2_notin_dict, f2_ix_dict, f3_get, pre2_get, pre3_get, preM_append, preM_pop, preM_extend, preM_set, preM_addI, preM_popK, preM_update, fM_pop, fM_popK, G_WAYS'] <;> rfl) rfl (by simp [WAYS, SL]) ?_).trans (by simp [-Option.map_eq_some_iff, -List.map_map, -Option.bind_some, -Option.map_some, obind_some, omap_some, ex_fn, ev_cst, ev_glb, ev_rd, ev_p1, ev_p2, ev_p3, ev_chain, ev_and, ev_or, ev_not, ev_ite, ev_tup, ev_lst, ev_call, ev_mut, ev_oex, ev_opk, ev_peek, ev_snil, ev_scons, ev_anil, ev_aex, ev_abw, ev_cnil, ev_ccons, ev_iex, ev_irng, ev_izip, ev_ienum, ex_asg, ex_unp, ex_par, ex_aug, ex_expr, ex_mutS, ex_ret, ex_ifs, ex_pass, ex_nil, ex_cons, ev_ssnil, ev_sscons, st_lc, st_lc2, st_dc, obind_ite, omap_ite, bnd_ite, mp_ite, bnd_some, mp_some, takeAll, aget_val, aget_own, ownS_list, ownS_dD, nodupN, ownsOf, putBack, dat_fz, dat_ow, thaw_fz, thaw_ow, thaw_emp, get_val, get_at, pre2, owOk, P1.fresh, P2.fresh, P3.fresh, Sl.mk, wipeE, unwipe, ownFree_eq, notOw_fz, notOw_emp, notOw_none, notOw_nz, nz_some, nz_none, bindT_nm, bindT_raw, bindT_pair, bindT_t3, bindT_t4, store, storeS, lcL_nil, lcL_cons, lcPut_some, lcPut_none, f2_eq_nil, f2_ne_nil, int_fold, bool_fold, str_fold, dp_int, dp_bool, dp_str, dp_unit, dp_list, dp_tup, dp_pair, dp_t3, f1_neg, f1_abs, f1_int, f2_add, f2_sub, f2_lt, f2_le, f2_gt, f2_ge, f2_mn2, f2_mx2, augD_add, augD_sub, f1_all, f1_any, f1_sum, f2_in_list, f2_notin_list, f2_in_tup, f2_notin_tup, f2_eq, f2_ne, f2_in_dict, f2_notin_dict, f2_ix_dict, f3_get, pre2_get, pre3_get, preM_append, preM_pop, preM_extend, preM_set, preM_addI, preM_popK, preM_update, fM_pop, fM_popK])
        intro w _
        simp [-Option.map_eq_some_iff, -List.map_map, -Option.bind_some, -Option.map_some, obind_some, omap_some, ex_fn, ev_cst, ev_glb, ev_rd, ev_p1, ev_p2, ev_p3, ev_chain, ev_and, ev_or, ev_not, ev_ite, ev_tup, ev_lst, ev_call, ev_mut, ev_oex, ev_opk, ev_peek, ev_snil, ev_scons, ev_anil, ev_aex, ev_abw, ev_cnil, ev_ccons, ev_iex, ev_irng, ev_izip, ev_ienum, ex_asg, ex_unp, ex_par, ex_aug, ex_expr, ex_mutS, ex_ret, ex_ifs, ex_pass, ex_nil, ex_cons, ev_ssnil, ev_sscons, st_lc, st_lc2, st_dc, obind_ite, omap_ite, bnd_ite, mp_ite, bnd_some, mp_some, takeAll, aget_val, aget_own, ownS_list, ownS_dD, nodupN, ownsOf, putBack, dat_fz, dat_ow, thaw_fz, thaw_ow, thaw_emp, get_val, get_at, pre2, owOk, P1.fresh, P2.fresh, P3.fresh, Sl.mk, wipeE, unwipe, ownFree_eq, notOw_fz, notOw_emp, notOw_none, notOw_nz, nz_some, nz_none, bindT_nm, bindT_raw, bindT_pair, bindT_t3, bindT_t4, store, storeS, lcL_nil, lcL_cons, lcPut_some, lcPut_none, f2_eq_nil, f2_ne_nil, int_fold, bool_fold, str_fold, dp_int, dp_bool, dp_str, dp_unit, dp_list, dp_tup, dp_pair, dp_t3, f1_neg, f1_abs, f1_int, f2_add, f2_sub, f2_lt, f2_le, f2_gt, f2_ge, f2_mn2, f2_mx2, augD_add, augD_sub, f1_all, f1_any, f1_sum, f2_in_list, f2_notin_list, f2_in_tup, f2_notin_tup, f2_eq, f2_ne, f2_in_dict, f2_notin_dict, f2_ix_dict, f3_get, pre2_get, pre3_get, preM_append, preM_pop, preM_extend, preM_set, preM_addI, preM_popK, preM_update, fM_pop, fM_popK, r_row_from, hl, show (0 : Int) ≤ l by omega, show l ≤ 100 by omega]
      have h3 : evalE cons (R (n + 1)) e_rows_in_3 [.fz (Datum.toD s), .fz (Datum.toD l), .ow (Datum.toD found), .fz (Datum.toD c), .fz (Datum.toD (WAYS.map fun w => Tup.mk (rowF c w l))), .emp, .emp] = some (.ow (Datum.toD (rowsFrom s l c)), [.fz (Datum.toD s), .fz (Datum.toD l), .ow (Datum.toD found), .fz (Datum.toD c), .fz (Datum.toD (WAYS.map fun w => Tup.mk (rowF c w l))), .emp, .emp]) := by
        refine (lc_S (p := fun r => inB s (lastC r)) (xs := WAYS.map fun w => Tup.mk (rowF c w l)) (by simp [-Option.map_eq_some_iff, -List.map_map, -Option.bind_some, -Option.map_some, obind_some, omap_some, ex_fn, ev_cst, ev_glb, ev_rd, ev_p1, ev_p2, ev_p3, ev_chain, ev_and, ev_or, ev_not, ev_ite, ev_tup, ev_lst, ev_call, ev_mut, ev_oex, ev_opk, ev_peek, ev_snil, ev_scons, ev_anil, ev_aex, ev_abw, ev_cnil, ev_ccons, ev_iex, ev_irng, ev_izip, ev_ienum, ex_asg, ex_unp, ex_par, ex_aug, ex_expr, ex_mutS, ex_ret, ex_ifs, ex_pass, ex_nil, ex_cons, ev_ssnil, ev_sscons, st_lc, st_lc2, st_dc, obind_ite, omap_ite, bnd_ite, mp_ite, bnd_some, mp_some, takeAll, aget_val, aget_own, ownS_list, ownS_dD, nodupN, ownsOf, putBack, dat_fz, dat_ow, thaw_fz, thaw_ow, thaw_emp, get_val, get_at, pre2, owOk, P1.fresh, P2.fresh, P3.fresh, Sl.mk, wipeE, unwipe, ownFree_eq, notOw_fz, notOw_emp, notOw_none, notOw_nz, nz_some, nz_none, bindT_nm, bindT_raw, bindT_pair, bindT_t3, bindT_t4, store, storeS, lcL_nil, lcL_cons, lcPut_some, lcPut_none, f2_eq_nil, f2_ne_nil, int_fold, bool_fold, str_fold, dp_int, dp_bool, dp_str, dp_unit, dp_list, dp_tup, dp_pair, dp_t3, f1_neg, f1_abs, f1_int, f2_add, f2_sub, f2_lt, f2_le, f2_gt, f2_ge, f2_mn2, f2_mx2, augD_add, augD_sub, f1_all, f1_any, f1_sum, f2_in_list, f2_notin_list, f2_in_tup, f2_notin_tup, f2_eq, f2_ne, f2_in_dict, f2_notin_dict, f2_ix_dict, f3_get, pre2_get, pre3_get, preM_append, preM_pop, preM_extend, preM_set, preM_addI, preM_popK, preM_update, fM_pop, fM_popK] <;> rfl) rfl (by simp [WAYS, SL]) ?_).trans (by simp [-Option.map_eq_some_iff, -List.map_map, -Option.bind_some, -Option.map_some, obind_some, omap_some, ex_fn, ev_cst, ev_glb, ev_rd, ev_p1, ev_p2, ev_p3, ev_chain, ev_and, ev_or, ev_not, ev_ite, ev_tup, ev_lst, ev_call, ev_mut, ev_oex, ev_opk, ev_peek, ev_snil, ev_scons, ev_anil, ev_aex, ev_abw, ev_cnil, ev_ccons, ev_iex, ev_irng, ev_izip, ev_ienum, ex_asg, ex_unp, ex_par, ex_aug, ex_expr, ex_mutS, ex_ret, ex_ifs, ex_pass, ex_nil, ex_cons, ev_ssnil, ev_sscons, st_lc, st_lc2, st_dc, obind_ite, omap_ite, bnd_ite, mp_ite, bnd_some, mp_some, takeAll, aget_val, aget_own, ownS_list, ownS_dD, nodupN, ownsOf, putBack, dat_fz, dat_ow, thaw_fz, thaw_ow, thaw_emp, get_val, get_at, pre2, owOk, P1.fresh, P2.fresh, P3.fresh, Sl.mk, wipeE, unwipe, ownFree_eq, notOw_fz, notOw_emp, notOw_none, notOw_nz, nz_some, nz_none, bindT_nm, bindT_raw, bindT_pair, bindT_t3, bindT_t4, store, storeS, lcL_nil, lcL_cons, lcPut_some, lcPut_none, f2_eq_nil, f2_ne_nil, int_fold, bool_fold, str_fold, dp_int, dp_bool, dp_str, dp_unit, dp_list, dp_tup, dp_pair, dp_t3, f1_neg, f1_abs, f1_int, f2_add, f2_sub, f2_lt, f2_le, f2_gt, f2_ge, f2_mn2, f2_mx2, augD_add, augD_sub, f1_all, f1_any, f1_sum, f2_in_list, f2_notin_list, f2_in_tup, f2_notin_tup, f2_eq, f2_ne, f2_in_dict, f2_notin_dict, f2_ix_dict, f3_get, pre2_get, pre3_get, preM_append, preM_pop, preM_extend, preM_set, preM_addI, preM_popK, preM_update, fM_pop, fM_popK, rowsFrom])
        intro r hr
        obtain ⟨w, _, rfl⟩ := List.mem_map.mp hr
        simp [-Option.map_eq_some_iff, -List.map_map, -Option.bind_some, -Option.map_some, obind_some, omap_some, ex_fn, ev_cst, ev_glb, ev_rd, ev_p1, ev_p2, ev_p3, ev_chain, ev_and, ev_or, ev_not, ev_ite, ev_tup, ev_lst, ev_call, ev_mut, ev_oex, ev_opk, ev_peek, ev_snil, ev_scons, ev_anil, ev_aex, ev_abw, ev_cnil, ev_ccons, ev_iex, ev_irng, ev_izip, ev_ienum, ex_asg, ex_unp, ex_par, ex_aug, ex_expr, ex_mutS, ex_ret, ex_ifs, ex_pass, ex_nil, ex_cons, ev_ssnil, ev_sscons, st_lc, st_lc2, st_dc, obind_ite, omap_ite, bnd_ite, mp_ite, bnd_some, mp_some, takeAll, aget_val, aget_own, ownS_list, ownS_dD, nodupN, ownsOf, putBack, dat_fz, dat_ow, thaw_fz, thaw_ow, thaw_emp, get_val, get_at, pre2, owOk, P1.fresh, P2.fresh, P3.fresh, Sl.mk, wipeE, unwipe, ownFree_eq, notOw_fz, notOw_emp, notOw_none, notOw_nz, nz_some, nz_none, bindT_nm, bindT_raw, bindT_pair, bindT_t3, bindT_t4, store, storeS, lcL_nil, lcL_cons, lcPut_some, lcPut_none, f2_eq_nil, f2_ne_nil, int_fold, bool_fold, str_fold, dp_int, dp_bool, dp_str, dp_unit, dp_list, dp_tup, dp_pair, dp_t3, f1_neg, f1_abs, f1_int, f2_add, f2_sub, f2_lt, f2_le, f2_gt, f2_ge, f2_mn2, f2_mx2, augD_add, augD_sub, f1_all, f1_any, f1_sum, f2_in_list, f2_notin_list, f2_in_tup, f2_notin_tup, f2_eq, f2_ne, f2_in_dict, f2_notin_dict, f2_ix_dict, f3_get, pre2_get, pre3_get, preM_append, preM_pop, preM_extend, preM_set, preM_addI, preM_popK, preM_update, fM_pop, fM_popK, lastRow, lastC, show 1 ≤ l by omega, r_is_in]
        split <;> simp
      simp [b_rows_in_1, -Option.map_eq_some_iff, -List.map_map, -Option.bind_some, -Option.map_some, obind_some, omap_some, ex_fn, ev_cst, ev_glb, ev_rd, ev_p1, ev_p2, ev_p3, ev_chain, ev_and, ev_or, ev_not, ev_ite, ev_tup, ev_lst, ev_call, ev_mut, ev_oex, ev_opk, ev_peek, ev_snil, ev_scons, ev_anil, ev_aex, ev_abw, ev_cnil, ev_ccons, ev_iex, ev_irng, ev_izip, ev_ienum, ex_asg, ex_unp, ex_par, ex_aug, ex_expr, ex_mutS, ex_ret, ex_ifs, ex_pass, ex_nil, ex_cons, ev_ssnil, ev_sscons, st_lc, st_lc2, st_dc, obind_ite, omap_ite, bnd_ite, mp_ite, bnd_some, mp_some, takeAll, aget_val, aget_own, ownS_list, ownS_dD, nodupN, ownsOf, putBack, dat_fz, dat_ow, thaw_fz, thaw_ow, thaw_emp, get_val, get_at, pre2, owOk, P1.fresh, P2.fresh, P3.fresh, Sl.mk, wipeE, unwipe, ownFree_eq, notOw_fz, notOw_emp, notOw_none, notOw_nz, nz_some, nz_none, bindT_nm, bindT_raw, bindT_pair, bindT_t3, bindT_t4, store, storeS, lcL_nil, lcL_cons, lcPut_some, lcPut_none, f2_eq_nil, f2_ne_nil, int_fold, bool_fold, str_fold, dp_int, dp_bool, dp_str, dp_unit, dp_list, dp_tup, dp_pair, dp_t3, f1_neg, f1_abs, f1_int, f2_add, f2_sub, f2_lt, f2_le, f2_gt, f2_ge, f2_mn2, f2_mx2, augD_add, augD_sub, f1_all, f1_any, f1_sum, f2_in_list, f2_notin_list, f2_in_tup, f2_notin_tup, f2_eq, f2_ne, f2_in_dict, f2_notin_dict, f2_ix_dict, f3_get, pre2_get, pre3_get, preM_append, preM_pop, preM_extend, preM_set, preM_addI, preM_popK, preM_update, fM_pop, fM_popK, h2, h3, fM_extend, show found.length + (rowsFrom s l c).length ≤ SL from Nat.le_trans (Nat.add_le_add_left (rowsFrom_len s l c) _) hB])
    (by have := (len_cells_le h).2; unfold SL; simp; omega)
  simp only [toD_nil, List.nil_append] at hf
  have hq : f1 .sorted (Datum.toD ((cellsIn s).flatMap (rowsFrom s l))) = some (Datum.toD (rowsIn s l)) := f1_sorted_tups _ (rows0_ne (by omega)) (by decide) (Nat.le_trans (rows0_len s l h) (by decide))
  simp [R_rows_in, c_rows_in, l_rows_in_1, ex_for, -Option.map_eq_some_iff, -List.map_map, -Option.bind_some, -Option.map_some, obind_some, omap_some, ex_fn, ev_cst, ev_glb, ev_rd, ev_p1, ev_p2, ev_p3, ev_chain, ev_and, ev_or, ev_not, ev_ite, ev_tup, ev_lst, ev_call, ev_mut, ev_oex, ev_opk, ev_peek, ev_snil, ev_scons, ev_anil, ev_aex, ev_abw, ev_cnil, ev_ccons, ev_iex, ev_irng, ev_izip, ev_ienum, ex_asg, ex_unp, ex_par, ex_aug, ex_expr, ex_mutS, ex_ret, ex_ifs, ex_pass, ex_nil, ex_cons, ev_ssnil, ev_sscons, st_lc, st_lc2, st_dc, obind_ite, omap_ite, bnd_ite, mp_ite, bnd_some, mp_some, takeAll, aget_val, aget_own, ownS_list, ownS_dD, nodupN, ownsOf, putBack, dat_fz, dat_ow, thaw_fz, thaw_ow, thaw_emp, get_val, get_at, pre2, owOk, P1.fresh, P2.fresh, P3.fresh, Sl.mk, wipeE, unwipe, ownFree_eq, notOw_fz, notOw_emp, notOw_none, notOw_nz, nz_some, nz_none, bindT_nm, bindT_raw, bindT_pair, bindT_t3, bindT_t4, store, storeS, lcL_nil, lcL_cons, lcPut_some, lcPut_none, f2_eq_nil, f2_ne_nil, int_fold, bool_fold, str_fold, dp_int, dp_bool, dp_str, dp_unit, dp_list, dp_tup, dp_pair, dp_t3, f1_neg, f1_abs, f1_int, f2_add, f2_sub, f2_lt, f2_le, f2_gt, f2_ge, f2_mn2, f2_mx2, augD_add, augD_sub, f1_all, f1_any, f1_sum, f2_in_list, f2_notin_list, f2_in_tup, f2_notin_tup, f2_eq, f2_ne, f2_in_dict, f2_notin_dict, f2_ix_dict, f3_get, pre2_get, pre3_get, preM_append, preM_pop, preM_extend, preM_set, preM_addI, preM_popK, preM_update, fM_pop, fM_popK, r_cells_in, h, hf, hq]

/-! the law's own -/
def lcells (s : Cell) : List Cell := (rangeT 0 s.a).flatMap fun x => (rangeT 0 s.b).flatMap fun y => (rangeT 0 s.c).map fun z => ⟨x, y, z⟩
theorem lcells_eq (s : Cell) : lcells s = cellsIn s := by
  unfold lcells cellsIn rc
  rw [List.flatMap_assoc]
  congr 1; funext x
  rw [List.flatMap_map]
theorem r_law_cells (n : Nat) (s : Cell) (h : okS s = true) : R (n + 1) 27 [.fz (Datum.toD s)] = some (.fz (Datum.toD (cellsIn s)), [.fz (Datum.toD s)]) := by
  have hs := okS_le h
  have fa : fits62 s.a = true := fits62_of (by omega) (by omega)
  have fb : fits62 s.b = true := fits62_of (by omega) (by omega)
  have fc : fits62 s.c = true := fits62_of (by omega) (by omega)
  have la : (rangeT 0 s.a).length ≤ 6 := by rw [length_rangeT]; omega
  have lb : (rangeT 0 s.b).length ≤ 6 := by rw [length_rangeT]; omega
  have lc : (rangeT 0 s.c).length ≤ 6 := by rw [length_rangeT]; omega
  have g2 : ∀ x : Int, ∀ y ∈ rangeT 0 s.b, ((rangeT 0 s.c).map fun z => T3.mk x y z).length ≤ 6 := fun x y _ => by rw [List.length_map]; exact lc
  have g1 : ∀ x ∈ rangeT 0 s.a, ((rangeT 0 s.b).flatMap fun y => (rangeT 0 s.c).map fun z => T3.mk x y z).length ≤ 36 := fun x _ => Nat.le_trans (length_flatMap_le _ (g2 x)) (by omega)
  obtain ⟨j', hf⟩ := forLoop_app (body := fun env => execB cons (R n) b_law_cells_1 env) (tg := .nm 2) (S := fun (found : List Cell) (j : Sl × Sl) => [.fz (Datum.toD s), .fz (Datum.toD found), j.1, j.2, .emp]) (g := fun x => (rangeT 0 s.b).flatMap fun y => (rangeT 0 s.c).map fun z => T3.mk x y z) (m := 36) (B := SL)
    (rangeT 0 s.a) [] (.emp, .emp) g1 (fun x _ found j hB => by
      obtain ⟨j2, hf2⟩ := forLoop_app (body := fun env => execB cons (R n) b_law_cells_2 env) (tg := .nm 3) (S := fun (found : List Cell) (j : Sl) => [.fz (Datum.toD s), .fz (Datum.toD found), .fz (Datum.toD x), j, .emp]) (g := fun y => (rangeT 0 s.c).map fun z => T3.mk x y z) (m := 6) (B := SL)
        (rangeT 0 s.b) found j.2 (g2 x) (fun y hy found j hB => by
          refine ⟨.fz (Datum.toD y), ?_⟩
          have h3 : evalE cons (R n) e_law_cells_3 [.fz (Datum.toD s), .fz (Datum.toD found), .fz (Datum.toD x), .fz (Datum.toD y), .emp] = some (.ow (Datum.toD ((rangeT 0 s.c).map fun z => T3.mk x y z)), [.fz (Datum.toD s), .fz (Datum.toD found), .fz (Datum.toD x), .fz (Datum.toD y), .emp]) := by
            refine (lc_M (g := fun z => T3.mk x y z) (xs := rangeT 0 s.c) (by simp [-Option.map_eq_some_iff, -List.map_map, -Option.bind_some, -Option.map_some, obind_some, omap_some, ex_fn, ev_cst, ev_glb, ev_rd, ev_p1, ev_p2, ev_p3, ev_chain, ev_and, ev_or, ev_not, ev_ite, ev_tup, ev_lst, ev_call, ev_mut, ev_oex, ev_opk, ev_peek, ev_snil, ev_scons, ev_anil, ev_aex, ev_abw, ev_cnil, ev_ccons, ev_iex, ev_irng, ev_izip, ev_ienum, ex_asg, ex_unp, ex_par, ex_aug, ex_expr, ex_mutS, ex_ret, ex_ifs, ex_pass, ex_nil, ex_cons, ev_ssnil, ev_sscons, st_lc, st_lc2, st_dc, obind_ite, omap_ite, bnd_ite, mp_ite, bnd_some, mp_some, takeAll, aget_val, aget_own, ownS_list, ownS_dD, nodupN, ownsOf, putBack, dat_fz, dat_ow, thaw_fz, thaw_ow, thaw_emp, get_val, get_at, pre2, owOk, P1.fresh, P2.fresh, P3.fresh, Sl.mk, wipeE, unwipe, ownFree_eq, notOw_fz, notOw_emp, notOw_none, notOw_nz, nz_some, nz_none, bindT_nm, bindT_raw, bindT_pair, bindT_t3, bindT_t4, store, storeS, lcL_nil, lcL_cons, lcPut_some, lcPut_none, f2_eq_nil, f2_ne_nil, int_fold, bool_fold, str_fold, dp_int, dp_bool, dp_str, dp_unit, dp_list, dp_tup, dp_pair, dp_t3, f1_neg, f1_abs, f1_int, f2_add, f2_sub, f2_lt, f2_le, f2_gt, f2_ge, f2_mn2, f2_mx2, augD_add, augD_sub, f1_all, f1_any, f1_sum, f2_in_list, f2_notin_list, f2_in_tup, f2_notin_tup, f2_eq, f2_ne, f2_in_dict, f2_notin_dict, f2_ix_dict, f3_get, pre2_get, pre3_get, preM_append, preM_pop, preM_extend, preM_set, preM_addI, preM_popK, preM_update, fM_pop, fM_popK, rangeOf_1, fc] <;> rfl) rfl (Nat.le_trans lc (by decide)) ?_).trans (by simp [-Option.map_eq_some_iff, -List.map_map, -Option.bind_some, -Option.map_some, obind_some, omap_some, ex_fn, ev_cst, ev_glb, ev_rd, ev_p1, ev_p2, ev_p3, ev_chain, ev_and, ev_or, ev_not, ev_ite, ev_tup, ev_lst, ev_call, ev_mut, ev_oex, ev_opk, ev_peek, ev_snil, ev_scons, ev_anil, ev_aex, ev_abw, ev_cnil, ev_ccons, ev_iex, ev_irng, ev_izip, ev_ienum, ex_asg, ex_unp, ex_par, ex_aug, ex_expr, ex_mutS, ex_ret, ex_ifs, ex_pass, ex_nil, ex_cons, ev_ssnil, ev_sscons, st_lc, st_lc2, st_dc, obind_ite, omap_ite, bnd_ite, mp_ite, bnd_some, mp_some, takeAll, aget_val, aget_own, ownS_list, ownS_dD, nodupN, ownsOf, putBack, dat_fz, dat_ow, thaw_fz, thaw_ow, thaw_emp, get_val, get_at, pre2, owOk, P1.fresh, P2.fresh, P3.fresh, Sl.mk, wipeE, unwipe, ownFree_eq, notOw_fz, notOw_emp, notOw_none, notOw_nz, nz_some, nz_none, bindT_nm, bindT_raw, bindT_pair, bindT_t3, bindT_t4, store, storeS, lcL_nil, lcL_cons, lcPut_some, lcPut_none, f2_eq_nil, f2_ne_nil, int_fold, bool_fold, str_fold, dp_int, dp_bool, dp_str, dp_unit, dp_list, dp_tup, dp_pair, dp_t3, f1_neg, f1_abs, f1_int, f2_add, f2_sub, f2_lt, f2_le, f2_gt, f2_ge, f2_mn2, f2_mx2, augD_add, augD_sub, f1_all, f1_any, f1_sum, f2_in_list, f2_notin_list, f2_in_tup, f2_notin_tup, f2_eq, f2_ne, f2_in_dict, f2_notin_dict, f2_ix_dict, f3_get, pre2_get, pre3_get, preM_append, preM_pop, preM_extend, preM_set, preM_addI, preM_popK, preM_update, fM_pop, fM_popK])
            intro z _
            simp [-Option.map_eq_some_iff, -List.map_map, -Option.bind_some, -Option.map_some, obind_some, omap_some, ex_fn, ev_cst, ev_glb, ev_rd, ev_p1, ev_p2, ev_p3, ev_chain, ev_and, ev_or, ev_not, ev_ite, ev_tup, ev_lst, ev_call, ev_mut, ev_oex, ev_opk, ev_peek, ev_snil, ev_scons, ev_anil, ev_aex, ev_abw, ev_cnil, ev_ccons, ev_iex, ev_irng, ev_izip, ev_ienum, ex_asg, ex_unp, ex_par, ex_aug, ex_expr, ex_mutS, ex_ret, ex_ifs, ex_pass, ex_nil, ex_cons, ev_ssnil, ev_sscons, st_lc, st_lc2, st_dc, obind_ite, omap_ite, bnd_ite, mp_ite, bnd_some, mp_some, takeAll, aget_val, aget_own, ownS_list, ownS_dD, nodupN, ownsOf, putBack, dat_fz, dat_ow, thaw_fz, thaw_ow, thaw_emp, get_val, get_at, pre2, owOk, P1.fresh, P2.fresh, P3.fresh, Sl.mk, wipeE, unwipe, ownFree_eq, notOw_fz, notOw_emp, notOw_none, notOw_nz, nz_some, nz_none, bindT_nm, bindT_raw, bindT_pair, bindT_t3, bindT_t4, store, storeS, lcL_nil, lcL_cons, lcPut_some, lcPut_none, f2_eq_nil, f2_ne_nil, int_fold, bool_fold, str_fold, dp_int, dp_bool, dp_str, dp_unit, dp_list, dp_tup, dp_pair, dp_t3, f1_neg, f1_abs, f1_int, f2_add, f2_sub, f2_lt, f2_le, f2_gt, f2_ge, f2_mn2, f2_mx2, augD_add, augD_sub, f1_all, f1_any, f1_sum, f2_in_list, f2_notin_list, f2_in_tup, f2_notin_tup, f2_eq, f2_ne, f2_in_dict, f2_notin_dict, f2_ix_dict, f3_get, pre2_get, pre3_get, preM_append, preM_pop, preM_extend, preM_set, preM_addI, preM_popK, preM_update, fM_pop, fM_popK]
          have g3 := g2 x y hy
          have ha := f2_add_list found ((rangeT 0 s.c).map fun z => T3.mk x y z) (Nat.le_trans (Nat.add_le_add_left g3 _) hB)
          simp [b_law_cells_2, -Option.map_eq_some_iff, -List.map_map, -Option.bind_some, -Option.map_some, obind_some, omap_some, ex_fn, ev_cst, ev_glb, ev_rd, ev_p1, ev_p2, ev_p3, ev_chain, ev_and, ev_or, ev_not, ev_ite, ev_tup, ev_lst, ev_call, ev_mut, ev_oex, ev_opk, ev_peek, ev_snil, ev_scons, ev_anil, ev_aex, ev_abw, ev_cnil, ev_ccons, ev_iex, ev_irng, ev_izip, ev_ienum, ex_asg, ex_unp, ex_par, ex_aug, ex_expr, ex_mutS, ex_ret, ex_ifs, ex_pass, ex_nil, ex_cons, ev_ssnil, ev_sscons, st_lc, st_lc2, st_dc, obind_ite, omap_ite, bnd_ite, mp_ite, bnd_some, mp_some, takeAll, aget_val, aget_own, ownS_list, ownS_dD, nodupN, ownsOf, putBack, dat_fz, dat_ow, thaw_fz, thaw_ow, thaw_emp, get_val, get_at, pre2, owOk, P1.fresh, P2.fresh, P3.fresh, Sl.mk, wipeE, unwipe, ownFree_eq, notOw_fz, notOw_emp, notOw_none, notOw_nz, nz_some, nz_none, bindT_nm, bindT_raw, bindT_pair, bindT_t3, bindT_t4, store, storeS, lcL_nil, lcL_cons, lcPut_some, lcPut_none, f2_eq_nil, f2_ne_nil, int_fold, bool_fold, str_fold, dp_int, dp_bool, dp_str, dp_unit, dp_list, dp_tup, dp_pair, dp_t3, f1_neg, f1_abs, f1_int, f2_add, f2_sub, f2_lt, f2_le, f2_gt, f2_ge, f2_mn2, f2_mx2, augD_add, augD_sub, f1_all, f1_any, f1_sum, f2_in_list, f2_notin_list, f2_in_tup, f2_notin_tup, f2_eq, f2_ne, f2_in_dict, f2_notin_dict, f2_ix_dict, f3_get, pre2_get, pre3_get, preM_append, preM_pop, preM_extend, preM_set, preM_addI, preM_popK, preM_update, fM_pop, fM_popK, h3, ha])
        (by unfold SL at *; omega)
      refine ⟨(.fz (Datum.toD x), j2), ?_⟩
      simp [b_law_cells_1, l_law_cells_2, ex_for, -Option.map_eq_some_iff, -List.map_map, -Option.bind_some, -Option.map_some, obind_some, omap_some, ex_fn, ev_cst, ev_glb, ev_rd, ev_p1, ev_p2, ev_p3, ev_chain, ev_and, ev_or, ev_not, ev_ite, ev_tup, ev_lst, ev_call, ev_mut, ev_oex, ev_opk, ev_peek, ev_snil, ev_scons, ev_anil, ev_aex, ev_abw, ev_cnil, ev_ccons, ev_iex, ev_irng, ev_izip, ev_ienum, ex_asg, ex_unp, ex_par, ex_aug, ex_expr, ex_mutS, ex_ret, ex_ifs, ex_pass, ex_nil, ex_cons, ev_ssnil, ev_sscons, st_lc, st_lc2, st_dc, obind_ite, omap_ite, bnd_ite, mp_ite, bnd_some, mp_some, takeAll, aget_val, aget_own, ownS_list, ownS_dD, nodupN, ownsOf, putBack, dat_fz, dat_ow, thaw_fz, thaw_ow, thaw_emp, get_val, get_at, pre2, owOk, P1.fresh, P2.fresh, P3.fresh, Sl.mk, wipeE, unwipe, ownFree_eq, notOw_fz, notOw_emp, notOw_none, notOw_nz, nz_some, nz_none, bindT_nm, bindT_raw, bindT_pair, bindT_t3, bindT_t4, store, storeS, lcL_nil, lcL_cons, lcPut_some, lcPut_none, f2_eq_nil, f2_ne_nil, int_fold, bool_fold, str_fold, dp_int, dp_bool, dp_str, dp_unit, dp_list, dp_tup, dp_pair, dp_t3, f1_neg, f1_abs, f1_int, f2_add, f2_sub, f2_lt, f2_le, f2_gt, f2_ge, f2_mn2, f2_mx2, augD_add, augD_sub, f1_all, f1_any, f1_sum, f2_in_list, f2_notin_list, f2_in_tup, f2_notin_tup, f2_eq, f2_ne, f2_in_dict, f2_notin_dict, f2_ix_dict, f3_get, pre2_get, pre3_get, preM_append, preM_pop, preM_extend, preM_set, preM_addI, preM_popK, preM_update, fM_pop, fM_popK, rangeOf_1, fb, hf2])
    (by unfold SL; simp; omega)
  simp only [toD_nil, List.nil_append] at hf
  simp [R_law_cells, c_law_cells, l_law_cells_1, ex_for, -Option.map_eq_some_iff, -List.map_map, -Option.bind_some, -Option.map_some, obind_some, omap_some, ex_fn, ev_cst, ev_glb, ev_rd, ev_p1, ev_p2, ev_p3, ev_chain, ev_and, ev_or, ev_not, ev_ite, ev_tup, ev_lst, ev_call, ev_mut, ev_oex, ev_opk, ev_peek, ev_snil, ev_scons, ev_anil, ev_aex, ev_abw, ev_cnil, ev_ccons, ev_iex, ev_irng, ev_izip, ev_ienum, ex_asg, ex_unp, ex_par, ex_aug, ex_expr, ex_mutS, ex_ret, ex_ifs, ex_pass, ex_nil, ex_cons, ev_ssnil, ev_sscons, st_lc, st_lc2, st_dc, obind_ite, omap_ite, bnd_ite, mp_ite, bnd_some, mp_some, takeAll, aget_val, aget_own, ownS_list, ownS_dD, nodupN, ownsOf, putBack, dat_fz, dat_ow, thaw_fz, thaw_ow, thaw_emp, get_val, get_at, pre2, owOk, P1.fresh, P2.fresh, P3.fresh, Sl.mk, wipeE, unwipe, ownFree_eq, notOw_fz, notOw_emp, notOw_none, notOw_nz, nz_some, nz_none, bindT_nm, bindT_raw, bindT_pair, bindT_t3, bindT_t4, store, storeS, lcL_nil, lcL_cons, lcPut_some, lcPut_none, f2_eq_nil, f2_ne_nil, int_fold, bool_fold, str_fold, dp_int, dp_bool, dp_str, dp_unit, dp_list, dp_tup, dp_pair, dp_t3, f1_neg, f1_abs, f1_int, f2_add, f2_sub, f2_lt, f2_le, f2_gt, f2_ge, f2_mn2, f2_mx2, augD_add, augD_sub, f1_all, f1_any, f1_sum, f2_in_list, f2_notin_list, f2_in_tup, f2_notin_tup, f2_eq, f2_ne, f2_in_dict, f2_notin_dict, f2_ix_dict, f3_get, pre2_get, pre3_get, preM_append, preM_pop, preM_extend, preM_set, preM_addI, preM_popK, preM_update, fM_pop, fM_popK, rangeOf_1, fa, hf]
  exact congrArg _ (lcells_eq s)

end G94
end

section
set_option maxRecDepth 100000
set_option linter.all false
namespace G94
open Ky PySem PySem.W
def okRow (s : Cell) (l : Int) (q w : Cell) : Bool := DatumOrd.lt (⟨0, 0, 0⟩ : Cell) w && ((rowF q w l).filter fun x => !decide (x ∈ cellsIn s)).isEmpty
def oneRow (s : Cell) (l : Int) (q w : Cell) : List (Tup Cell) := if okRow s l q w then [Tup.mk (rowF q w l)] else []
def g4 (s : Cell) (l : Int) (q : Cell) (a b c : Int) := oneRow s l q ⟨a, b, c⟩
def g3 (s : Cell) (l : Int) (q : Cell) (a b : Int) := ([-1, 0, 1] : List Int).flatMap (g4 s l q a b)
def g2 (s : Cell) (l : Int) (q : Cell) (a : Int) := ([-1, 0, 1] : List Int).flatMap (g3 s l q a)
def g1 (s : Cell) (l : Int) (q : Cell) := ([0, 1] : List Int).flatMap (g2 s l q)
theorem g4_len (s : Cell) (l : Int) (q : Cell) (a b c : Int) : (g4 s l q a b c).length ≤ 1 := by unfold g4 oneRow; split <;> simp
theorem g3_len (s : Cell) (l : Int) (q : Cell) (a b : Int) : (g3 s l q a b).length ≤ 3 := length_flatMap_le _ fun c _ => g4_len s l q a b c
theorem g2_len (s : Cell) (l : Int) (q : Cell) (a : Int) : (g2 s l q a).length ≤ 9 := length_flatMap_le _ fun c _ => g3_len s l q a c
theorem g1_len (s : Cell) (l : Int) (q : Cell) : (g1 s l q).length ≤ 18 := length_flatMap_le _ fun c _ => g2_len s l q c
def lrows0 (s : Cell) (l : Int) : List (Tup Cell) := (cellsIn s).flatMap (g1 s l)
theorem fz3 (a b c : Int) : ([PyData.int a, PyData.int b, PyData.int c] : List D) = ([a, b, c] : List Int).map Datum.toD := rfl
theorem lrows0_ne {s : Cell} {l : Int} (hl : 1 ≤ l) : ∀ r ∈ lrows0 s l, r.items ≠ [] := by
  intro r hr
  obtain ⟨q, _, hr⟩ := List.mem_flatMap.mp hr
  obtain ⟨a, _, hr⟩ := List.mem_flatMap.mp hr
  obtain ⟨b, _, hr⟩ := List.mem_flatMap.mp hr
  obtain ⟨c, _, hr⟩ := List.mem_flatMap.mp hr
  unfold g4 oneRow at hr
  split at hr
  · rw [List.mem_singleton] at hr
    subst hr
    intro e
    have := congrArg List.length e
    rw [len_rowF] at this
    simp at this; omega
  · cases hr
theorem r_law_rows0 (n : Nat) (s : Cell) (l : Int) (h : okS s = true) (hl : 2 ≤ l ∧ l ≤ 6) : R (n + 2) 28 [.fz (Datum.toD s), .fz (Datum.toD l)] = some (.ow (Datum.toD (sortT (lrows0 s l))), [.fz (Datum.toD s), .fz (Datum.toD l)]) := by
  have fl : fits62 l = true := fits62_of (by omega) (by omega)
  have in4 : ∀ (q : Cell) (a b c : Int) (found : List (Tup Cell)) (j : Sl × Sl), found.length + 1 ≤ SL → ∃ j' : Sl × Sl, (bindT [.fz (Datum.toD s), .fz (Datum.toD l), .fz (Datum.toD (cellsIn s)), .ow (Datum.toD found), .fz (Datum.toD q.a), .fz (Datum.toD q.b), .fz (Datum.toD q.c), .fz (Datum.toD a), .fz (Datum.toD b), j.1, j.2, .emp, .emp] (.nm 9) (Datum.toD c)).bind (fun env => execB cons (R (n + 1)) b_law_rows_4 env) = some (.nx, [.fz (Datum.toD s), .fz (Datum.toD l), .fz (Datum.toD (cellsIn s)), .ow (Datum.toD (found ++ g4 s l q a b c)), .fz (Datum.toD q.a), .fz (Datum.toD q.b), .fz (Datum.toD q.c), .fz (Datum.toD a), .fz (Datum.toD b), j'.1, j'.2, .emp, .emp]) := by
    intro q a b c found j hB
    refine ⟨(.fz (Datum.toD c), .fz (Datum.toD (Tup.mk (rowF q ⟨a, b, c⟩ l)))), ?_⟩
    have h5 : ∀ j2, evalE cons (R (n + 1)) e_law_rows_5 [.fz (Datum.toD s), .fz (Datum.toD l), .fz (Datum.toD (cellsIn s)), .ow (Datum.toD found), .fz (Datum.toD q.a), .fz (Datum.toD q.b), .fz (Datum.toD q.c), .fz (Datum.toD a), .fz (Datum.toD b), .fz (Datum.toD c), j2, .emp, .emp] = some (.ow (Datum.toD (rowF q ⟨a, b, c⟩ l)), [.fz (Datum.toD s), .fz (Datum.toD l), .fz (Datum.toD (cellsIn s)), .ow (Datum.toD found), .fz (Datum.toD q.a), .fz (Datum.toD q.b), .fz (Datum.toD q.c), .fz (Datum.toD a), .fz (Datum.toD b), .fz (Datum.toD c), j2, .emp, .emp]) := by
      intro j2
      refine (lc_M (g := fun k => along q ⟨a, b, c⟩ k) (xs := rangeT 0 l) (by simp [-Option.map_eq_some_iff, -List.map_map, -Option.bind_some, -Option.map_some, obind_some, omap_some, ex_fn, ev_cst, ev_glb, ev_rd, ev_p1, ev_p2, ev_p3, ev_chain, ev_and, ev_or, ev_not, ev_ite, ev_tup, ev_lst, ev_call, ev_mut, ev_oex, ev_opk, ev_peek, ev_snil, ev_scons, ev_anil, ev_aex, ev_abw, ev_cnil, ev_ccons, ev_iex, ev_irng, ev_izip, ev_ienum, ex_asg, ex_unp, ex_par, ex_aug, ex_expr, ex_mutS, ex_ret, ex_ifs, ex_pass, ex_nil, ex_cons, ev_ssnil, ev_sscons, st_lc, st_lc2, st_dc, obind_ite, omap_ite, bnd_ite, mp_ite, bnd_some, mp_some, takeAll, aget_val, aget_own, ownS_list, ownS_dD, nodupN, ownsOf, putBack, dat_fz, dat_ow, thaw_fz, thaw_ow, thaw_emp, get_val, get_at, pre2, owOk, P1.fresh, P2.fresh, P3.fresh, Sl.mk, wipeE, unwipe, ownFree_eq, notOw_fz, notOw_emp, notOw_none, notOw_nz, nz_some, nz_none, bindT_nm, bindT_raw, bindT_pair, bindT_t3, bindT_t4, store, storeS, lcL_nil, lcL_cons, lcPut_some, lcPut_none, f2_eq_nil, f2_ne_nil, int_fold, bool_fold, str_fold, dp_int, dp_bool, dp_str, dp_unit, dp_list, dp_tup, dp_pair, dp_t3, f1_neg, f1_abs, f1_int, f2_add, f2_sub, f2_lt, f2_le, f2_gt, f2_ge, f2_mn2, f2_mx2, augD_add, augD_sub, f1_all, f1_any, f1_sum, f2_in_list, f2_notin_list, f2_in_tup, f2_notin_tup, f2_eq, f2_ne, f2_in_dict, f2_notin_dict, f2_ix_dict, f3_get, pre2_get, pre3_get, preM_append, preM_pop, preM_extend, preM_set, preM_addI, preM_popK, preM_update, fM_pop, fM_popK, rangeOf_1, fl] <;> rfl) rfl (by rw [length_rangeT]; unfold SL; omega) ?_).trans (by simp [-Option.map_eq_some_iff, -List.map_map, -Option.bind_some, -Option.map_some, obind_some, omap_some, ex_fn, ev_cst, ev_glb, ev_rd, ev_p1, ev_p2, ev_p3, ev_chain, ev_and, ev_or, ev_not, ev_ite, ev_tup, ev_lst, ev_call, ev_mut, ev_oex, ev_opk, ev_peek, ev_snil, ev_scons, ev_anil, ev_aex, ev_abw, ev_cnil, ev_ccons, ev_iex, ev_irng, ev_izip, ev_ienum, ex_asg, ex_unp, ex_par, ex_aug, ex_expr, ex_mutS, ex_ret, ex_ifs, ex_pass, ex_nil, ex_cons, ev_ssnil, ev_sscons, st_lc, st_lc2, st_dc, obind_ite, omap_ite, bnd_ite, mp_ite, bnd_some, mp_some, takeAll, aget_val, aget_own, ownS_list, ownS_dD, nodupN, ownsOf, putBack, dat_fz, dat_ow, thaw_fz, thaw_ow, thaw_emp, get_val, get_at, pre2, owOk, P1.fresh, P2.fresh, P3.fresh, Sl.mk, wipeE, unwipe, ownFree_eq, notOw_fz, notOw_emp, notOw_none, notOw_nz, nz_some, nz_none, bindT_nm, bindT_raw, bindT_pair, bindT_t3, bindT_t4, store, storeS, lcL_nil, lcL_cons, lcPut_some, lcPut_none, f2_eq_nil, f2_ne_nil, int_fold, bool_fold, str_fold, dp_int, dp_bool, dp_str, dp_unit, dp_list, dp_tup, dp_pair, dp_t3, f1_neg, f1_abs, f1_int, f2_add, f2_sub, f2_lt, f2_le, f2_gt, f2_ge, f2_mn2, f2_mx2, augD_add, augD_sub, f1_all, f1_any, f1_sum, f2_in_list, f2_notin_list, f2_in_tup, f2_notin_tup, f2_eq, f2_ne, f2_in_dict, f2_notin_dict, f2_ix_dict, f3_get, pre2_get, pre3_get, preM_append, preM_pop, preM_extend, preM_set, preM_addI, preM_popK, preM_update, fM_pop, fM_popK, rowF])
      intro k hk
      have hk := mem_rangeT.mp hk
      have sk : small k = true := small_ok (by omega) (by omega)
      simp [-Option.map_eq_some_iff, -List.map_map, -Option.bind_some, -Option.map_some, obind_some, omap_some, ex_fn, ev_cst, ev_glb, ev_rd, ev_p1, ev_p2, ev_p3, ev_chain, ev_and, ev_or, ev_not, ev_ite, ev_tup, ev_lst, ev_call, ev_mut, ev_oex, ev_opk, ev_peek, ev_snil, ev_scons, ev_anil, ev_aex, ev_abw, ev_cnil, ev_ccons, ev_iex, ev_irng, ev_izip, ev_ienum, ex_asg, ex_unp, ex_par, ex_aug, ex_expr, ex_mutS, ex_ret, ex_ifs, ex_pass, ex_nil, ex_cons, ev_ssnil, ev_sscons, st_lc, st_lc2, st_dc, obind_ite, omap_ite, bnd_ite, mp_ite, bnd_some, mp_some, takeAll, aget_val, aget_own, ownS_list, ownS_dD, nodupN, ownsOf, putBack, dat_fz, dat_ow, thaw_fz, thaw_ow, thaw_emp, get_val, get_at, pre2, owOk, P1.fresh, P2.fresh, P3.fresh, Sl.mk, wipeE, unwipe, ownFree_eq, notOw_fz, notOw_emp, notOw_none, notOw_nz, nz_some, nz_none, bindT_nm, bindT_raw, bindT_pair, bindT_t3, bindT_t4, store, storeS, lcL_nil, lcL_cons, lcPut_some, lcPut_none, f2_eq_nil, f2_ne_nil, int_fold, bool_fold, str_fold, dp_int, dp_bool, dp_str, dp_unit, dp_list, dp_tup, dp_pair, dp_t3, f1_neg, f1_abs, f1_int, f2_add, f2_sub, f2_lt, f2_le, f2_gt, f2_ge, f2_mn2, f2_mx2, augD_add, augD_sub, f1_all, f1_any, f1_sum, f2_in_list, f2_notin_list, f2_in_tup, f2_notin_tup, f2_eq, f2_ne, f2_in_dict, f2_notin_dict, f2_ix_dict, f3_get, pre2_get, pre3_get, preM_append, preM_pop, preM_extend, preM_set, preM_addI, preM_popK, preM_update, fM_pop, fM_popK, f2_mul, sk, along]
    have h6 : evalE cons (R (n + 1)) e_law_rows_6 [.fz (Datum.toD s), .fz (Datum.toD l), .fz (Datum.toD (cellsIn s)), .ow (Datum.toD found), .fz (Datum.toD q.a), .fz (Datum.toD q.b), .fz (Datum.toD q.c), .fz (Datum.toD a), .fz (Datum.toD b), .fz (Datum.toD c), .fz (Datum.toD (Tup.mk (rowF q ⟨a, b, c⟩ l))), .emp, .emp] = some (.ow (Datum.toD ((rowF q ⟨a, b, c⟩ l).filter fun x => !decide (x ∈ cellsIn s))), [.fz (Datum.toD s), .fz (Datum.toD l), .fz (Datum.toD (cellsIn s)), .ow (Datum.toD found), .fz (Datum.toD q.a), .fz (Datum.toD q.b), .fz (Datum.toD q.c), .fz (Datum.toD a), .fz (Datum.toD b), .fz (Datum.toD c), .fz (Datum.toD (Tup.mk (rowF q ⟨a, b, c⟩ l))), .emp, .emp]) := by
      refine (lc_S (p := fun x => !decide (x ∈ cellsIn s)) (xs := rowF q ⟨a, b, c⟩ l) (by simp [-Option.map_eq_some_iff, -List.map_map, -Option.bind_some, -Option.map_some, obind_some, omap_some, ex_fn, ev_cst, ev_glb, ev_rd, ev_p1, ev_p2, ev_p3, ev_chain, ev_and, ev_or, ev_not, ev_ite, ev_tup, ev_lst, ev_call, ev_mut, ev_oex, ev_opk, ev_peek, ev_snil, ev_scons, ev_anil, ev_aex, ev_abw, ev_cnil, ev_ccons, ev_iex, ev_irng, ev_izip, ev_ienum, ex_asg, ex_unp, ex_par, ex_aug, ex_expr, ex_mutS, ex_ret, ex_ifs, ex_pass, ex_nil, ex_cons, ev_ssnil, ev_sscons, st_lc, st_lc2, st_dc, obind_ite, omap_ite, bnd_ite, mp_ite, bnd_some, mp_some, takeAll, aget_val, aget_own, ownS_list, ownS_dD, nodupN, ownsOf, putBack, dat_fz, dat_ow, thaw_fz, thaw_ow, thaw_emp, get_val, get_at, pre2, owOk, P1.fresh, P2.fresh, P3.fresh, Sl.mk, wipeE, unwipe, ownFree_eq, notOw_fz, notOw_emp, notOw_none, notOw_nz, nz_some, nz_none, bindT_nm, bindT_raw, bindT_pair, bindT_t3, bindT_t4, store, storeS, lcL_nil, lcL_cons, lcPut_some, lcPut_none, f2_eq_nil, f2_ne_nil, int_fold, bool_fold, str_fold, dp_int, dp_bool, dp_str, dp_unit, dp_list, dp_tup, dp_pair, dp_t3, f1_neg, f1_abs, f1_int, f2_add, f2_sub, f2_lt, f2_le, f2_gt, f2_ge, f2_mn2, f2_mx2, augD_add, augD_sub, f1_all, f1_any, f1_sum, f2_in_list, f2_notin_list, f2_in_tup, f2_notin_tup, f2_eq, f2_ne, f2_in_dict, f2_notin_dict, f2_ix_dict, f3_get, pre2_get, pre3_get, preM_append, preM_pop, preM_extend, preM_set, preM_addI, preM_popK, preM_update, fM_pop, fM_popK] <;> rfl) rfl (by rw [len_rowF]; unfold SL; omega) ?_).trans (by simp [-Option.map_eq_some_iff, -List.map_map, -Option.bind_some, -Option.map_some, obind_some, omap_some, ex_fn, ev_cst, ev_glb, ev_rd, ev_p1, ev_p2, ev_p3, ev_chain, ev_and, ev_or, ev_not, ev_ite, ev_tup, ev_lst, ev_call, ev_mut, ev_oex, ev_opk, ev_peek, ev_snil, ev_scons, ev_anil, ev_aex, ev_abw, ev_cnil, ev_ccons, ev_iex, ev_irng, ev_izip, ev_ienum, ex_asg, ex_unp, ex_par, ex_aug, ex_expr, ex_mutS, ex_ret, ex_ifs, ex_pass, ex_nil, ex_cons, ev_ssnil, ev_sscons, st_lc, st_lc2, st_dc, obind_ite, omap_ite, bnd_ite, mp_ite, bnd_some, mp_some, takeAll, aget_val, aget_own, ownS_list, ownS_dD, nodupN, ownsOf, putBack, dat_fz, dat_ow, thaw_fz, thaw_ow, thaw_emp, get_val, get_at, pre2, owOk, P1.fresh, P2.fresh, P3.fresh, Sl.mk, wipeE, unwipe, ownFree_eq, notOw_fz, notOw_emp, notOw_none, notOw_nz, nz_some, nz_none, bindT_nm, bindT_raw, bindT_pair, bindT_t3, bindT_t4, store, storeS, lcL_nil, lcL_cons, lcPut_some, lcPut_none, f2_eq_nil, f2_ne_nil, int_fold, bool_fold, str_fold, dp_int, dp_bool, dp_str, dp_unit, dp_list, dp_tup, dp_pair, dp_t3, f1_neg, f1_abs, f1_int, f2_add, f2_sub, f2_lt, f2_le, f2_gt, f2_ge, f2_mn2, f2_mx2, augD_add, augD_sub, f1_all, f1_any, f1_sum, f2_in_list, f2_notin_list, f2_in_tup, f2_notin_tup, f2_eq, f2_ne, f2_in_dict, f2_notin_dict, f2_ix_dict, f3_get, pre2_get, pre3_get, preM_append, preM_pop, preM_extend, preM_set, preM_addI, preM_popK, preM_update, fM_pop, fM_popK])
      intro x _
      simp [-Option.map_eq_some_iff, -List.map_map, -Option.bind_some, -Option.map_some, obind_some, omap_some, ex_fn, ev_cst, ev_glb, ev_rd, ev_p1, ev_p2, ev_p3, ev_chain, ev_and, ev_or, ev_not, ev_ite, ev_tup, ev_lst, ev_call, ev_mut, ev_oex, ev_opk, ev_peek, ev_snil, ev_scons, ev_anil, ev_aex, ev_abw, ev_cnil, ev_ccons, ev_iex, ev_irng, ev_izip, ev_ienum, ex_asg, ex_unp, ex_par, ex_aug, ex_expr, ex_mutS, ex_ret, ex_ifs, ex_pass, ex_nil, ex_cons, ev_ssnil, ev_sscons, st_lc, st_lc2, st_dc, obind_ite, omap_ite, bnd_ite, mp_ite, bnd_some, mp_some, takeAll, aget_val, aget_own, ownS_list, ownS_dD, nodupN, ownsOf, putBack, dat_fz, dat_ow, thaw_fz, thaw_ow, thaw_emp, get_val, get_at, pre2, owOk, P1.fresh, P2.fresh, P3.fresh, Sl.mk, wipeE, unwipe, ownFree_eq, notOw_fz, notOw_emp, notOw_none, notOw_nz, nz_some, nz_none, bindT_nm, bindT_raw, bindT_pair, bindT_t3, bindT_t4, store, storeS, lcL_nil, lcL_cons, lcPut_some, lcPut_none, f2_eq_nil, f2_ne_nil, int_fold, bool_fold, str_fold, dp_int, dp_bool, dp_str, dp_unit, dp_list, dp_tup, dp_pair, dp_t3, f1_neg, f1_abs, f1_int, f2_add, f2_sub, f2_lt, f2_le, f2_gt, f2_ge, f2_mn2, f2_mx2, augD_add, augD_sub, f1_all, f1_any, f1_sum, f2_in_list, f2_notin_list, f2_in_tup, f2_notin_tup, f2_eq, f2_ne, f2_in_dict, f2_notin_dict, f2_ix_dict, f3_get, pre2_get, pre3_get, preM_append, preM_pop, preM_extend, preM_set, preM_addI, preM_popK, preM_update, fM_pop, fM_popK]
      split <;> simp
    have hg : ∀ w : Cell, f2 .gt (Datum.toD w) (Datum.toD (⟨0, 0, 0⟩ : Cell)) = some (Datum.toD (DatumOrd.lt (⟨0, 0, 0⟩ : Cell) w)) := fun w => f2_gt_t3 w _ (by decide)
    have hA := fM_append found (Tup.mk (rowF q ⟨a, b, c⟩ l)) (by omega)
    have e1 : g4 s l q a b c = if okRow s l q ⟨a, b, c⟩ then [Tup.mk (rowF q ⟨a, b, c⟩ l)] else [] := rfl
    rw [e1]
    unfold okRow
    simp only [b_law_rows_4]
    by_cases c1 : DatumOrd.lt (⟨0, 0, 0⟩ : Cell) ⟨a, b, c⟩ = true
    · by_cases c2 : ((rowF q ⟨a, b, c⟩ l).filter fun x => !decide (x ∈ cellsIn s)).isEmpty = true
      · simp [-Option.map_eq_some_iff, -List.map_map, -Option.bind_some, -Option.map_some, obind_some, omap_some, ex_fn, ev_cst, ev_glb, ev_rd, ev_p1, ev_p2, ev_p3, ev_chain, ev_and, ev_or, ev_not, ev_ite, ev_tup, ev_lst, ev_call, ev_mut, ev_oex, ev_opk, ev_peek, ev_snil, ev_scons, ev_anil, ev_aex, ev_abw, ev_cnil, ev_ccons, ev_iex, ev_irng, ev_izip, ev_ienum, ex_asg, ex_unp, ex_par, ex_aug, ex_expr, ex_mutS, ex_ret, ex_ifs, ex_pass, ex_nil, ex_cons, ev_ssnil, ev_sscons, st_lc, st_lc2, st_dc, obind_ite, omap_ite, bnd_ite, mp_ite, bnd_some, mp_some, takeAll, aget_val, aget_own, ownS_list, ownS_dD, nodupN, ownsOf, putBack, dat_fz, dat_ow, thaw_fz, thaw_ow, thaw_emp, get_val, get_at, pre2, owOk, P1.fresh, P2.fresh, P3.fresh, Sl.mk, wipeE, unwipe, ownFree_eq, notOw_fz, notOw_emp, notOw_none, notOw_nz, nz_some, nz_none, bindT_nm, bindT_raw, bindT_pair, bindT_t3, bindT_t4, store, storeS, lcL_nil, lcL_cons, lcPut_some, lcPut_none, f2_eq_nil, f2_ne_nil, int_fold, bool_fold, str_fold, dp_int, dp_bool, dp_str, dp_unit, dp_list, dp_tup, dp_pair, dp_t3, f1_neg, f1_abs, f1_int, f2_add, f2_sub, f2_lt, f2_le, f2_gt, f2_ge, f2_mn2, f2_mx2, augD_add, augD_sub, f1_all, f1_any, f1_sum, f2_in_list, f2_notin_list, f2_in_tup, f2_notin_tup, f2_eq, f2_ne, f2_in_dict, f2_notin_dict, f2_ix_dict, f3_get, pre2_get, pre3_get, preM_append, preM_pop, preM_extend, preM_set, preM_addI, preM_popK, preM_update, fM_pop, fM_popK, h5, h6, hg, c1, c2, hA]
      · simp [-Option.map_eq_some_iff, -List.map_map, -Option.bind_some, -Option.map_some, obind_some, omap_some, ex_fn, ev_cst, ev_glb, ev_rd, ev_p1, ev_p2, ev_p3, ev_chain, ev_and, ev_or, ev_not, ev_ite, ev_tup, ev_lst, ev_call, ev_mut, ev_oex, ev_opk, ev_peek, ev_snil, ev_scons, ev_anil, ev_aex, ev_abw, ev_cnil, ev_ccons, ev_iex, ev_irng, ev_izip, ev_ienum, ex_asg, ex_unp, ex_par, ex_aug, ex_expr, ex_mutS, ex_ret, ex_ifs, ex_pass, ex_nil, ex_cons, ev_ssnil, ev_sscons, st_lc, st_lc2, st_dc, obind_ite, omap_ite, bnd_ite, mp_ite, bnd_some, mp_some, takeAll, aget_val, aget_own, ownS_list, ownS_dD, nodupN, ownsOf, putBack, dat_fz, dat_ow, thaw_fz, thaw_ow, thaw_emp, get_val, get_at, pre2, owOk, P1.fresh, P2.fresh, P3.fresh, Sl.mk, wipeE, unwipe, ownFree_eq, notOw_fz, notOw_emp, notOw_none, notOw_nz, nz_some, nz_none, bindT_nm, bindT_raw, bindT_pair, bindT_t3, bindT_t4, store, storeS, lcL_nil, lcL_cons, lcPut_some, lcPut_none, f2_eq_nil, f2_ne_nil, int_fold, bool_fold, str_fold, dp_int, dp_bool, dp_str, dp_unit, dp_list, dp_tup, dp_pair, dp_t3, f1_neg, f1_abs, f1_int, f2_add, f2_sub, f2_lt, f2_le, f2_gt, f2_ge, f2_mn2, f2_mx2, augD_add, augD_sub, f1_all, f1_any, f1_sum, f2_in_list, f2_notin_list, f2_in_tup, f2_notin_tup, f2_eq, f2_ne, f2_in_dict, f2_notin_dict, f2_ix_dict, f3_get, pre2_get, pre3_get, preM_append, preM_pop, preM_extend, preM_set, preM_addI, preM_popK, preM_update, fM_pop, fM_popK, h5, h6, hg, c1, c2, hA]
    · simp [-Option.map_eq_some_iff, -List.map_map, -Option.bind_some, -Option.map_some, obind_some, omap_some, ex_fn, ev_cst, ev_glb, ev_rd, ev_p1, ev_p2, ev_p3, ev_chain, ev_and, ev_or, ev_not, ev_ite, ev_tup, ev_lst, ev_call, ev_mut, ev_oex, ev_opk, ev_peek, ev_snil, ev_scons, ev_anil, ev_aex, ev_abw, ev_cnil, ev_ccons, ev_iex, ev_irng, ev_izip, ev_ienum, ex_asg, ex_unp, ex_par, ex_aug, ex_expr, ex_mutS, ex_ret, ex_ifs, ex_pass, ex_nil, ex_cons, ev_ssnil, ev_sscons, st_lc, st_lc2, st_dc, obind_ite, omap_ite, bnd_ite, mp_ite, bnd_some, mp_some, takeAll, aget_val, aget_own, ownS_list, ownS_dD, nodupN, ownsOf, putBack, dat_fz, dat_ow, thaw_fz, thaw_ow, thaw_emp, get_val, get_at, pre2, owOk, P1.fresh, P2.fresh, P3.fresh, Sl.mk, wipeE, unwipe, ownFree_eq, notOw_fz, notOw_emp, notOw_none, notOw_nz, nz_some, nz_none, bindT_nm, bindT_raw, bindT_pair, bindT_t3, bindT_t4, store, storeS, lcL_nil, lcL_cons, lcPut_some, lcPut_none, f2_eq_nil, f2_ne_nil, int_fold, bool_fold, str_fold, dp_int, dp_bool, dp_str, dp_unit, dp_list, dp_tup, dp_pair, dp_t3, f1_neg, f1_abs, f1_int, f2_add, f2_sub, f2_lt, f2_le, f2_gt, f2_ge, f2_mn2, f2_mx2, augD_add, augD_sub, f1_all, f1_any, f1_sum, f2_in_list, f2_notin_list, f2_in_tup, f2_notin_tup, f2_eq, f2_ne, f2_in_dict, f2_notin_dict, f2_ix_dict, f3_get, pre2_get, pre3_get, preM_append, preM_pop, preM_extend, preM_set, preM_addI, preM_popK, preM_update, fM_pop, fM_popK, h5, h6, hg, c1, hA]
  have hm : ([-1, 0, 1] : List Int).map Datum.toD = [Datum.toD (-1 : Int), Datum.toD (0 : Int), Datum.toD (1 : Int)] := rfl
  have hz : ([0, 1] : List Int).map Datum.toD = [Datum.toD (0 : Int), Datum.toD (1 : Int)] := rfl
  have in3 : ∀ (q : Cell) (a b : Int) (found : List (Tup Cell)) (j : Sl × Sl × Sl), found.length + 3 ≤ SL → ∃ j' : Sl × Sl × Sl, (bindT [.fz (Datum.toD s), .fz (Datum.toD l), .fz (Datum.toD (cellsIn s)), .ow (Datum.toD found), .fz (Datum.toD q.a), .fz (Datum.toD q.b), .fz (Datum.toD q.c), .fz (Datum.toD a), j.1, j.2.1, j.2.2, .emp, .emp] (.nm 8) (Datum.toD b)).bind (fun env => execB cons (R (n + 1)) b_law_rows_3 env) = some (.nx, [.fz (Datum.toD s), .fz (Datum.toD l), .fz (Datum.toD (cellsIn s)), .ow (Datum.toD (found ++ g3 s l q a b)), .fz (Datum.toD q.a), .fz (Datum.toD q.b), .fz (Datum.toD q.c), .fz (Datum.toD a), j'.1, j'.2.1, j'.2.2, .emp, .emp]) := by
    intro q a b found j hB
    obtain ⟨j4, h4⟩ := forLoop_app (S := fun (found : List (Tup Cell)) (j : Sl × Sl) => [.fz (Datum.toD s), .fz (Datum.toD l), .fz (Datum.toD (cellsIn s)), .ow (Datum.toD found), .fz (Datum.toD q.a), .fz (Datum.toD q.b), .fz (Datum.toD q.c), .fz (Datum.toD a), .fz (Datum.toD b), j.1, j.2, .emp, .emp]) (g := g4 s l q a b) (m := 1) (B := SL) [-1, 0, 1] found (j.2.1, j.2.2) (fun c _ => g4_len s l q a b c) (fun c _ f j h => in4 q a b c f j h) hB
    rw [hm] at h4
    exact ⟨(.fz (Datum.toD b), j4), by simp [b_law_rows_3, l_law_rows_4, ex_for, -Option.map_eq_some_iff, -List.map_map, -Option.bind_some, -Option.map_some, obind_some, omap_some, ex_fn, ev_cst, ev_glb, ev_rd, ev_p1, ev_p2, ev_p3, ev_chain, ev_and, ev_or, ev_not, ev_ite, ev_tup, ev_lst, ev_call, ev_mut, ev_oex, ev_opk, ev_peek, ev_snil, ev_scons, ev_anil, ev_aex, ev_abw, ev_cnil, ev_ccons, ev_iex, ev_irng, ev_izip, ev_ienum, ex_asg, ex_unp, ex_par, ex_aug, ex_expr, ex_mutS, ex_ret, ex_ifs, ex_pass, ex_nil, ex_cons, ev_ssnil, ev_sscons, st_lc, st_lc2, st_dc, obind_ite, omap_ite, bnd_ite, mp_ite, bnd_some, mp_some, takeAll, aget_val, aget_own, ownS_list, ownS_dD, nodupN, ownsOf, putBack, dat_fz, dat_ow, thaw_fz, thaw_ow, thaw_emp, get_val, get_at, pre2, owOk, P1.fresh, P2.fresh, P3.fresh, Sl.mk, wipeE, unwipe, ownFree_eq, notOw_fz, notOw_emp, notOw_none, notOw_nz, nz_some, nz_none, bindT_nm, bindT_raw, bindT_pair, bindT_t3, bindT_t4, store, storeS, lcL_nil, lcL_cons, lcPut_some, lcPut_none, f2_eq_nil, f2_ne_nil, int_fold, bool_fold, str_fold, dp_int, dp_bool, dp_str, dp_unit, dp_list, dp_tup, dp_pair, dp_t3, f1_neg, f1_abs, f1_int, f2_add, f2_sub, f2_lt, f2_le, f2_gt, f2_ge, f2_mn2, f2_mx2, augD_add, augD_sub, f1_all, f1_any, f1_sum, f2_in_list, f2_notin_list, f2_in_tup, f2_notin_tup, f2_eq, f2_ne, f2_in_dict, f2_notin_dict, f2_ix_dict, f3_get, pre2_get, pre3_get, preM_append, preM_pop, preM_extend, preM_set, preM_addI, preM_popK, preM_update, fM_pop, fM_popK, h4, g3]⟩
  have in2 : ∀ (q : Cell) (a : Int) (found : List (Tup Cell)) (j : Sl × Sl × Sl × Sl), found.length + 9 ≤ SL → ∃ j' : Sl × Sl × Sl × Sl, (bindT [.fz (Datum.toD s), .fz (Datum.toD l), .fz (Datum.toD (cellsIn s)), .ow (Datum.toD found), .fz (Datum.toD q.a), .fz (Datum.toD q.b), .fz (Datum.toD q.c), j.1, j.2.1, j.2.2.1, j.2.2.2, .emp, .emp] (.nm 7) (Datum.toD a)).bind (fun env => execB cons (R (n + 1)) b_law_rows_2 env) = some (.nx, [.fz (Datum.toD s), .fz (Datum.toD l), .fz (Datum.toD (cellsIn s)), .ow (Datum.toD (found ++ g2 s l q a)), .fz (Datum.toD q.a), .fz (Datum.toD q.b), .fz (Datum.toD q.c), j'.1, j'.2.1, j'.2.2.1, j'.2.2.2, .emp, .emp]) := by
    intro q a found j hB
    obtain ⟨j4, h4⟩ := forLoop_app (S := fun (found : List (Tup Cell)) (j : Sl × Sl × Sl) => [.fz (Datum.toD s), .fz (Datum.toD l), .fz (Datum.toD (cellsIn s)), .ow (Datum.toD found), .fz (Datum.toD q.a), .fz (Datum.toD q.b), .fz (Datum.toD q.c), .fz (Datum.toD a), j.1, j.2.1, j.2.2, .emp, .emp]) (g := g3 s l q a) (m := 3) (B := SL) [-1, 0, 1] found j.2 (fun c _ => g3_len s l q a c) (fun c _ f j h => in3 q a c f j h) hB
    rw [hm] at h4
    exact ⟨(.fz (Datum.toD a), j4), by simp [b_law_rows_2, l_law_rows_3, ex_for, -Option.map_eq_some_iff, -List.map_map, -Option.bind_some, -Option.map_some, obind_some, omap_some, ex_fn, ev_cst, ev_glb, ev_rd, ev_p1, ev_p2, ev_p3, ev_chain, ev_and, ev_or, ev_not, ev_ite, ev_tup, ev_lst, ev_call, ev_mut, ev_oex, ev_opk, ev_peek, ev_snil, ev_scons, ev_anil, ev_aex, ev_abw, ev_cnil, ev_ccons, ev_iex, ev_irng, ev_izip, ev_ienum, ex_asg, ex_unp, ex_par, ex_aug, ex_expr, ex_mutS, ex_ret, ex_ifs, ex_pass, ex_nil, ex_cons, ev_ssnil, ev_sscons, st_lc, st_lc2, st_dc, obind_ite, omap_ite, bnd_ite, mp_ite, bnd_some, mp_some, takeAll, aget_val, aget_own, ownS_list, ownS_dD, nodupN, ownsOf, putBack, dat_fz, dat_ow, thaw_fz, thaw_ow, thaw_emp, get_val, get_at, pre2, owOk, P1.fresh, P2.fresh, P3.fresh, Sl.mk, wipeE, unwipe, ownFree_eq, notOw_fz, notOw_emp, notOw_none, notOw_nz, nz_some, nz_none, bindT_nm, bindT_raw, bindT_pair, bindT_t3, bindT_t4, store, storeS, lcL_nil, lcL_cons, lcPut_some, lcPut_none, f2_eq_nil, f2_ne_nil, int_fold, bool_fold, str_fold, dp_int, dp_bool, dp_str, dp_unit, dp_list, dp_tup, dp_pair, dp_t3, f1_neg, f1_abs, f1_int, f2_add, f2_sub, f2_lt, f2_le, f2_gt, f2_ge, f2_mn2, f2_mx2, augD_add, augD_sub, f1_all, f1_any, f1_sum, f2_in_list, f2_notin_list, f2_in_tup, f2_notin_tup, f2_eq, f2_ne, f2_in_dict, f2_notin_dict, f2_ix_dict, f3_get, pre2_get, pre3_get, preM_append, preM_pop, preM_extend, preM_set, preM_addI, preM_popK, preM_update, fM_pop, fM_popK, h4, g2]⟩
  have in1 : ∀ (q : Cell) (found : List (Tup Cell)) (j : (Sl × Sl × Sl) × Sl × Sl × Sl × Sl), found.length + 18 ≤ SL → ∃ j' : (Sl × Sl × Sl) × Sl × Sl × Sl × Sl, (bindT [.fz (Datum.toD s), .fz (Datum.toD l), .fz (Datum.toD (cellsIn s)), .ow (Datum.toD found), j.1.1, j.1.2.1, j.1.2.2, j.2.1, j.2.2.1, j.2.2.2.1, j.2.2.2.2, .emp, .emp] (.tp [4, 5, 6]) (Datum.toD q)).bind (fun env => execB cons (R (n + 1)) b_law_rows_1 env) = some (.nx, [.fz (Datum.toD s), .fz (Datum.toD l), .fz (Datum.toD (cellsIn s)), .ow (Datum.toD (found ++ g1 s l q)), j'.1.1, j'.1.2.1, j'.1.2.2, j'.2.1, j'.2.2.1, j'.2.2.2.1, j'.2.2.2.2, .emp, .emp]) := by
    intro q found j hB
    obtain ⟨j4, h4⟩ := forLoop_app (S := fun (found : List (Tup Cell)) (j : Sl × Sl × Sl × Sl) => [.fz (Datum.toD s), .fz (Datum.toD l), .fz (Datum.toD (cellsIn s)), .ow (Datum.toD found), .fz (Datum.toD q.a), .fz (Datum.toD q.b), .fz (Datum.toD q.c), j.1, j.2.1, j.2.2.1, j.2.2.2, .emp, .emp]) (g := g2 s l q) (m := 9) (B := SL) [0, 1] found j.2 (fun c _ => g2_len s l q c) (fun c _ f j h => in2 q c f j h) hB
    rw [hz] at h4
    exact ⟨((.fz (Datum.toD q.a), .fz (Datum.toD q.b), .fz (Datum.toD q.c)), j4), by simp [b_law_rows_1, l_law_rows_2, ex_for, -Option.map_eq_some_iff, -List.map_map, -Option.bind_some, -Option.map_some, obind_some, omap_some, ex_fn, ev_cst, ev_glb, ev_rd, ev_p1, ev_p2, ev_p3, ev_chain, ev_and, ev_or, ev_not, ev_ite, ev_tup, ev_lst, ev_call, ev_mut, ev_oex, ev_opk, ev_peek, ev_snil, ev_scons, ev_anil, ev_aex, ev_abw, ev_cnil, ev_ccons, ev_iex, ev_irng, ev_izip, ev_ienum, ex_asg, ex_unp, ex_par, ex_aug, ex_expr, ex_mutS, ex_ret, ex_ifs, ex_pass, ex_nil, ex_cons, ev_ssnil, ev_sscons, st_lc, st_lc2, st_dc, obind_ite, omap_ite, bnd_ite, mp_ite, bnd_some, mp_some, takeAll, aget_val, aget_own, ownS_list, ownS_dD, nodupN, ownsOf, putBack, dat_fz, dat_ow, thaw_fz, thaw_ow, thaw_emp, get_val, get_at, pre2, owOk, P1.fresh, P2.fresh, P3.fresh, Sl.mk, wipeE, unwipe, ownFree_eq, notOw_fz, notOw_emp, notOw_none, notOw_nz, nz_some, nz_none, bindT_nm, bindT_raw, bindT_pair, bindT_t3, bindT_t4, store, storeS, lcL_nil, lcL_cons, lcPut_some, lcPut_none, f2_eq_nil, f2_ne_nil, int_fold, bool_fold, str_fold, dp_int, dp_bool, dp_str, dp_unit, dp_list, dp_tup, dp_pair, dp_t3, f1_neg, f1_abs, f1_int, f2_add, f2_sub, f2_lt, f2_le, f2_gt, f2_ge, f2_mn2, f2_mx2, augD_add, augD_sub, f1_all, f1_any, f1_sum, f2_in_list, f2_notin_list, f2_in_tup, f2_notin_tup, f2_eq, f2_ne, f2_in_dict, f2_notin_dict, f2_ix_dict, f3_get, pre2_get, pre3_get, preM_append, preM_pop, preM_extend, preM_set, preM_addI, preM_popK, preM_update, fM_pop, fM_popK, h4, g1]⟩
  have len : ([] : List (Tup Cell)).length + (cellsIn s).length * 18 ≤ SL := by have := (len_cells_le h).2; unfold SL; simp; omega
  obtain ⟨j4, h4⟩ := forLoop_app (S := fun (found : List (Tup Cell)) (j : (Sl × Sl × Sl) × Sl × Sl × Sl × Sl) => [.fz (Datum.toD s), .fz (Datum.toD l), .fz (Datum.toD (cellsIn s)), .ow (Datum.toD found), j.1.1, j.1.2.1, j.1.2.2, j.2.1, j.2.2.1, j.2.2.2.1, j.2.2.2.2, .emp, .emp]) (g := g1 s l) (m := 18) (B := SL) (cellsIn s) [] ((.emp, .emp, .emp), .emp, .emp, .emp, .emp) (fun c _ => g1_len s l c) (fun c _ f j h => in1 c f j h) len
  simp only [toD_nil, List.nil_append] at h4
  have hq : f1 .sorted (Datum.toD (lrows0 s l)) = some (Datum.toD (sortT (lrows0 s l))) := f1_sorted_tups _ (lrows0_ne (by omega)) (by decide) (Nat.le_trans (length_flatMap_le _ fun c _ => g1_len s l c) (by simpa using len))
  simp [R_law_rows, c_law_rows, l_law_rows_1, ex_for, -Option.map_eq_some_iff, -List.map_map, -Option.bind_some, -Option.map_some, obind_some, omap_some, ex_fn, ev_cst, ev_glb, ev_rd, ev_p1, ev_p2, ev_p3, ev_chain, ev_and, ev_or, ev_not, ev_ite, ev_tup, ev_lst, ev_call, ev_mut, ev_oex, ev_opk, ev_peek, ev_snil, ev_scons, ev_anil, ev_aex, ev_abw, ev_cnil, ev_ccons, ev_iex, ev_irng, ev_izip, ev_ienum, ex_asg, ex_unp, ex_par, ex_aug, ex_expr, ex_mutS, ex_ret, ex_ifs, ex_pass, ex_nil, ex_cons, ev_ssnil, ev_sscons, st_lc, st_lc2, st_dc, obind_ite, omap_ite, bnd_ite, mp_ite, bnd_some, mp_some, takeAll, aget_val, aget_own, ownS_list, ownS_dD, nodupN, ownsOf, putBack, dat_fz, dat_ow, thaw_fz, thaw_ow, thaw_emp, get_val, get_at, pre2, owOk, P1.fresh, P2.fresh, P3.fresh, Sl.mk, wipeE, unwipe, ownFree_eq, notOw_fz, notOw_emp, notOw_none, notOw_nz, nz_some, nz_none, bindT_nm, bindT_raw, bindT_pair, bindT_t3, bindT_t4, store, storeS, lcL_nil, lcL_cons, lcPut_some, lcPut_none, f2_eq_nil, f2_ne_nil, int_fold, bool_fold, str_fold, dp_int, dp_bool, dp_str, dp_unit, dp_list, dp_tup, dp_pair, dp_t3, f1_neg, f1_abs, f1_int, f2_add, f2_sub, f2_lt, f2_le, f2_gt, f2_ge, f2_mn2, f2_mx2, augD_add, augD_sub, f1_all, f1_any, f1_sum, f2_in_list, f2_notin_list, f2_in_tup, f2_notin_tup, f2_eq, f2_ne, f2_in_dict, f2_notin_dict, f2_ix_dict, f3_get, pre2_get, pre3_get, preM_append, preM_pop, preM_extend, preM_set, preM_addI, preM_popK, preM_update, fM_pop, fM_popK, r_law_cells, h, h4]
  rw [show ((cellsIn s).flatMap (g1 s l)) = lrows0 s l from rfl, hq]
  simp [-Option.map_eq_some_iff, -List.map_map, -Option.bind_some, -Option.map_some, obind_some, omap_some, ex_fn, ev_cst, ev_glb, ev_rd, ev_p1, ev_p2, ev_p3, ev_chain, ev_and, ev_or, ev_not, ev_ite, ev_tup, ev_lst, ev_call, ev_mut, ev_oex, ev_opk, ev_peek, ev_snil, ev_scons, ev_anil, ev_aex, ev_abw, ev_cnil, ev_ccons, ev_iex, ev_irng, ev_izip, ev_ienum, ex_asg, ex_unp, ex_par, ex_aug, ex_expr, ex_mutS, ex_ret, ex_ifs, ex_pass, ex_nil, ex_cons, ev_ssnil, ev_sscons, st_lc, st_lc2, st_dc, obind_ite, omap_ite, bnd_ite, mp_ite, bnd_some, mp_some, takeAll, aget_val, aget_own, ownS_list, ownS_dD, nodupN, ownsOf, putBack, dat_fz, dat_ow, thaw_fz, thaw_ow, thaw_emp, get_val, get_at, pre2, owOk, P1.fresh, P2.fresh, P3.fresh, Sl.mk, wipeE, unwipe, ownFree_eq, notOw_fz, notOw_emp, notOw_none, notOw_nz, nz_some, nz_none, bindT_nm, bindT_raw, bindT_pair, bindT_t3, bindT_t4, store, storeS, lcL_nil, lcL_cons, lcPut_some, lcPut_none, f2_eq_nil, f2_ne_nil, int_fold, bool_fold, str_fold, dp_int, dp_bool, dp_str, dp_unit, dp_list, dp_tup, dp_pair, dp_t3, f1_neg, f1_abs, f1_int, f2_add, f2_sub, f2_lt, f2_le, f2_gt, f2_ge, f2_mn2, f2_mx2, augD_add, augD_sub, f1_all, f1_any, f1_sum, f2_in_list, f2_notin_list, f2_in_tup, f2_notin_tup, f2_eq, f2_ne, f2_in_dict, f2_notin_dict, f2_ix_dict, f3_get, pre2_get, pre3_get, preM_append, preM_pop, preM_extend, preM_set, preM_addI, preM_popK, preM_update, fM_pop, fM_popK]

end G94
end

section
set_option maxRecDepth 100000
set_option linter.all false
namespace G94
open Ky PySem PySem.W
theorem mem_cellsIn {s c : Cell} : c ∈ cellsIn s ↔ inB s c = true := by
  unfold cellsIn rc inB
  simp only [List.mem_flatMap, List.mem_map, mem_rangeT, Bool.and_eq_true, decide_eq_true_eq]
  constructor
  · rintro ⟨p, ⟨x, hx, y, hy, rfl⟩, z, hz, rfl⟩; exact ⟨⟨hx.1, hx.2⟩, ⟨hy.1, hy.2⟩, hz.1, hz.2⟩
  · rintro ⟨⟨h1, h2⟩, ⟨h3, h4⟩, h5, h6⟩
    exact ⟨(c.a, c.b), ⟨c.a, ⟨h1, h2⟩, c.b, ⟨h3, h4⟩, rfl⟩, c.c, ⟨h5, h6⟩, rfl⟩
def unitC (w : Cell) : Prop := (w.a = -1 ∨ w.a = 0 ∨ w.a = 1) ∧ (w.b = -1 ∨ w.b = 0 ∨ w.b = 1) ∧ (w.c = -1 ∨ w.c = 0 ∨ w.c = 1)
theorem conv1 {q w k l s : Int} (hw : w = -1 ∨ w = 0 ∨ w = 1) (hk : 0 ≤ k ∧ k < l) (h0 : 0 ≤ q ∧ q < s) (h1 : 0 ≤ q + (l - 1) * w ∧ q + (l - 1) * w < s) : 0 ≤ q + k * w ∧ q + k * w < s := by
  rcases hw with rfl | rfl | rfl <;> omega
theorem inB_iff {s c : Cell} : inB s c = true ↔ (0 ≤ c.a ∧ c.a < s.a) ∧ (0 ≤ c.b ∧ c.b < s.b) ∧ (0 ≤ c.c ∧ c.c < s.c) := by
  unfold inB; simp only [Bool.and_eq_true, decide_eq_true_eq]
theorem conv {s q w : Cell} {l : Int} (hw : unitC w) (hq : inB s q = true) (h : inB s (along q w (l - 1)) = true) {k : Int} (hk : 0 ≤ k ∧ k < l) : inB s (along q w k) = true := by
  rw [inB_iff] at *
  exact ⟨conv1 hw.1 hk hq.1 h.1, conv1 hw.2.1 hk hq.2.1 h.2.1, conv1 hw.2.2 hk hq.2.2 h.2.2⟩
theorem inRow {s q w : Cell} {l : Int} (hl : 1 ≤ l) (hw : unitC w) (hq : inB s q = true) : ((rowF q w l).filter fun x => !decide (x ∈ cellsIn s)).isEmpty = inB s (along q w (l - 1)) := by
  rw [Bool.eq_iff_iff, List.isEmpty_iff, List.filter_eq_nil_iff]
  constructor
  · intro h
    have := h (along q w (l - 1)) (List.mem_map.mpr ⟨l - 1, mem_rangeT.mpr ⟨by omega, by omega⟩, rfl⟩)
    simpa [mem_cellsIn] using this
  · intro h x hx
    obtain ⟨k, hk, rfl⟩ := List.mem_map.mp hx
    have hk := mem_rangeT.mp hk
    simp [mem_cellsIn, conv hw hq h hk]
theorem oneRow_eq {s q w : Cell} {l : Int} (hl : 1 ≤ l) (hw : unitC w) (hq : inB s q = true) : oneRow s l q w = if DatumOrd.lt (⟨0, 0, 0⟩ : Cell) w && inB s (along q w (l - 1)) then [Tup.mk (rowF q w l)] else [] := by
  unfold oneRow okRow
  rw [inRow hl hw hq]
theorem g1_eq {s q : Cell} {l : Int} (hl : 1 ≤ l) (hq : inB s q = true) : g1 s l q = rowsFrom s l q := by
  have e : ∀ a b c : Int, (a = -1 ∨ a = 0 ∨ a = 1) → (b = -1 ∨ b = 0 ∨ b = 1) → (c = -1 ∨ c = 0 ∨ c = 1) → g4 s l q a b c = if DatumOrd.lt (⟨0, 0, 0⟩ : Cell) ⟨a, b, c⟩ && inB s (along q ⟨a, b, c⟩ (l - 1)) then [Tup.mk (rowF q ⟨a, b, c⟩ l)] else [] := fun a b c ha hb hc => oneRow_eq hl ⟨ha, hb, hc⟩ hq
  have hlast : ∀ w, lastC (Tup.mk (rowF q w l)) = along q w (l - 1) := fun w => by unfold lastC; rw [lastRow q w hl]; rfl
  have f : ∀ ws : List Cell, (ws.map fun w => Tup.mk (rowF q w l)).filter (fun r => inB s (lastC r)) = ws.flatMap fun w => if inB s (along q w (l - 1)) then [Tup.mk (rowF q w l)] else [] := by
    intro ws
    induction ws with
    | nil => rfl
    | cons w ws ih =>
      rw [List.map_cons, List.filter_cons, List.flatMap_cons, ih, hlast]
      split <;> simp
  unfold rowsFrom
  rw [f]
  simp only [g1, g2, g3, List.flatMap_cons, List.flatMap_nil, List.append_nil]
  simp only [e, true_or, or_true]
  simp [DatumOrd.lt, WAYS]
theorem lrows0_eq {s : Cell} {l : Int} (hl : 1 ≤ l) : lrows0 s l = rows0 s l := by
  unfold lrows0 rows0
  rw [List.flatMap_def, List.flatMap_def, List.map_congr_left fun q hq => g1_eq hl (mem_cellsIn.mp hq)]
theorem r_law_rows (n : Nat) (s : Cell) (l : Int) (h : okS s = true) (hl : 2 ≤ l ∧ l ≤ 6) : R (n + 2) 28 [.fz (Datum.toD s), .fz (Datum.toD l)] = some (.ow (Datum.toD (rowsIn s l)), [.fz (Datum.toD s), .fz (Datum.toD l)]) := by
  rw [r_law_rows0 n s l h hl, lrows0_eq (by omega)]; rfl

end G94
end

section
set_option maxRecDepth 100000
set_option linter.all false
namespace G94
open Ky PySem PySem.W
theorem mul_le6 {a b : Int} (ha : 1 ≤ a ∧ a ≤ 6) (hb : 1 ≤ b ∧ b ≤ 6) : 1 ≤ a * b ∧ a * b ≤ 36 := by
  have h1 : a = 1 ∨ a = 2 ∨ a = 3 ∨ a = 4 ∨ a = 5 ∨ a = 6 := by omega
  rcases h1 with rfl | rfl | rfl | rfl | rfl | rfl <;> omega
theorem WAYS_unit : ∀ w ∈ WAYS, unitC w := by
  intro w hw
  unfold unitC
  simp only [WAYS, List.mem_cons, List.not_mem_nil, or_false] at hw
  rcases hw with rfl | rfl | rfl | rfl | rfl | rfl | rfl | rfl | rfl | rfl | rfl | rfl | rfl <;> simp
theorem rising_rangeT (a b : Int) : Rising (rangeT a b) := by
  unfold Rising rangeT
  rw [List.pairwise_map]
  refine List.pairwise_lt_range.imp ?_
  intro x y h
  show decide (a + (x : Int) < a + (y : Int)) = true
  rw [decide_eq_true_eq]; omega
theorem pw_flatMap {α β : Type} {Rl : β → β → Prop} {g : α → List β} : ∀ {xs : List α}, (∀ x ∈ xs, (g x).Pairwise Rl) → xs.Pairwise (fun x y => ∀ a ∈ g x, ∀ b ∈ g y, Rl a b) → (xs.flatMap g).Pairwise Rl
  | [], _, _ => List.Pairwise.nil
  | x :: xs, h1, h2 => by
    rw [List.flatMap_cons, List.pairwise_append]
    rw [List.pairwise_cons] at h2
    refine ⟨h1 x List.mem_cons_self, pw_flatMap (fun y hy => h1 y (List.mem_cons_of_mem _ hy)) h2.2, ?_⟩
    intro a ha b hb
    obtain ⟨y, hy, hb⟩ := List.mem_flatMap.mp hb
    exact h2.1 y hy a ha b hb
theorem rising_cellsIn (s : Cell) : Rising (cellsIn s) := by
  rw [← lcells_eq]
  unfold lcells Rising
  refine pw_flatMap (fun x _ => pw_flatMap (fun y _ => ?_) ?_) ?_
  · rw [List.pairwise_map]
    refine (rising_rangeT 0 s.c).imp fun {z w} h => ?_
    show (if x = x then (if y = y then DatumOrd.lt z w else _) else _) = true
    rw [if_pos rfl, if_pos rfl]; exact h
  · refine (rising_rangeT 0 s.b).imp fun {y w} h a ha b hb => ?_
    obtain ⟨z, _, rfl⟩ := List.mem_map.mp ha
    obtain ⟨z', _, rfl⟩ := List.mem_map.mp hb
    have hne : y ≠ w := by rintro rfl; rw [lt_irrefl] at h; cases h
    show (if x = x then (if y = w then _ else DatumOrd.lt y w) else _) = true
    rw [if_pos rfl, if_neg hne]; exact h
  · refine (rising_rangeT 0 s.a).imp fun {x w} h a ha b hb => ?_
    obtain ⟨y, _, ha⟩ := List.mem_flatMap.mp ha
    obtain ⟨z, _, rfl⟩ := List.mem_map.mp ha
    obtain ⟨y', _, hb⟩ := List.mem_flatMap.mp hb
    obtain ⟨z', _, rfl⟩ := List.mem_map.mp hb
    have hne : x ≠ w := by rintro rfl; rw [lt_irrefl] at h; cases h
    show (if x = w then _ else DatumOrd.lt x w) = true
    rw [if_neg hne]; exact h
theorem nodup_cellsIn (s : Cell) : (cellsIn s).Nodup := (rising_cellsIn s).nodup
theorem cells_ne {s : Cell} (h : okS s = true) : cellsIn s ≠ [] := by
  have := okS_le h
  have : (⟨0, 0, 0⟩ : Cell) ∈ cellsIn s := mem_cellsIn.mpr (inB_iff.mpr ⟨⟨Int.le_refl 0, show 0 < s.a by omega⟩, ⟨Int.le_refl 0, show 0 < s.b by omega⟩, ⟨Int.le_refl 0, show 0 < s.c by omega⟩⟩)
  intro e; rw [e] at this; cases this
theorem mem_rows {s : Cell} {l : Int} {r : Tup Cell} : r ∈ rowsIn s l ↔ r ∈ rows0 s l := mem_sortT
theorem rows_sub {s : Cell} {l : Int} (hl : 1 ≤ l) {r : Tup Cell} (hr : r ∈ rowsIn s l) : ∀ c ∈ r.items, c ∈ cellsIn s := by
  obtain ⟨q, hq, hr⟩ := List.mem_flatMap.mp (mem_rows.mp hr)
  obtain ⟨w, hw, rfl, hin⟩ := mem_rowsFrom.mp hr
  intro c hc
  obtain ⟨k, hk, rfl⟩ := List.mem_map.mp hc
  have hin : inB s (along q w (l - 1)) = true := by
    have : lastC (Tup.mk (rowF q w l)) = along q w (l - 1) := by unfold lastC; rw [lastRow q w hl]; rfl
    rw [← this]; exact hin
  exact mem_cellsIn.mpr (conv (WAYS_unit w hw) (mem_cellsIn.mp hq) hin (mem_rangeT.mp hk))
theorem nodup_rowF {c w : Cell} {l : Int} (hw : w ∈ WAYS) : (rowF c w l).Nodup := by
  unfold rowF
  rw [List.nodup_iff_pairwise_ne, List.pairwise_map]
  refine (rising_rangeT 0 l).nodup.imp ?_
  intro k k' hne he
  apply hne
  have h1 := congrArg T3.a he
  have h2 := congrArg T3.b he
  have h3 := congrArg T3.c he
  unfold along at h1 h2 h3
  simp only [WAYS, List.mem_cons, List.not_mem_nil, or_false] at hw
  rcases hw with rfl | rfl | rfl | rfl | rfl | rfl | rfl | rfl | rfl | rfl | rfl | rfl | rfl <;> simp at h1 h2 h3 <;> omega
theorem rows_nodup {s : Cell} {l : Int} {r : Tup Cell} (hr : r ∈ rowsIn s l) : r.items.Nodup ∧ r.items.length = l.toNat := by
  obtain ⟨q, hq, hr⟩ := List.mem_flatMap.mp (mem_rows.mp hr)
  obtain ⟨w, hw, rfl, hin⟩ := mem_rowsFrom.mp hr
  exact ⟨nodup_rowF hw, len_rowF q w l⟩
theorem mul_bd {a b m k : Int} (ha : 0 ≤ a ∧ a ≤ m) (hb : 0 ≤ b ∧ b ≤ k) : 0 ≤ a * b ∧ a * b ≤ m * k :=
  ⟨Int.mul_nonneg ha.1 hb.1, Int.mul_le_mul ha.2 hb.2 hb.1 (by omega)⟩
theorem okS_of {s : Cell} (ha : 1 ≤ s.a ∧ s.a ≤ 6) (hb : 1 ≤ s.b ∧ s.b ≤ 6) (hc : 1 ≤ s.c ∧ s.c ≤ 6) : okS s = true := by
  unfold okS; simp only [Bool.and_eq_true, decide_eq_true_eq]; exact ⟨ha, hb, hc⟩
theorem same_rows {s : Cell} {l : Int} (h : okS s = true) (hl : 2 ≤ l ∧ l ≤ 6) : sameOk (Datum.toD (Tup.mk (rowsIn s l))) = true := by
  refine same_tup _ (by unfold rowsIn; rw [length_sortT]; exact Nat.le_trans (rows0_len s l h) (by decide)) fun r hr => ?_
  obtain ⟨r⟩ := r
  exact same_tup _ (by have h2 : r.length = l.toNat := (rows_nodup hr).2; rw [h2]; unfold SL; omega) fun c _ => same_cell c
theorem okC_of {s c : Cell} (h : okS s = true) (hi : inB s c = true) : okC c = true := by
  have := okS_le h
  rw [inB_iff] at hi
  unfold okC okN
  simp only [Bool.and_eq_true, decide_eq_true_eq]
  omega

end G94
end

section
set_option maxRecDepth 100000
set_option linter.all false
namespace G94
open Ky PySem PySem.W
/-! the draws -/
structure Cup where
  a : Int
  b : Int
  ha : 0 ≤ a
  hb : 0 ≤ b
def Cup.d (c : Cup) : D := Datum.toD [c.a, c.b]
theorem ownS_cup (c : Cup) : ownS (some (.ow c.d)) = some (.ow c.d) := rfl
theorem fmod_lo (a : Int) {b : Int} (h : 0 < b) : 0 ≤ a.fmod b ∧ a.fmod b < b := by
  rw [Int.fmod_eq_emod_of_nonneg a (by omega)]
  exact ⟨Int.emod_nonneg a (by omega), Int.emod_lt_of_pos a h⟩
theorem fdiv_lo {a b : Int} (ha : 0 ≤ a) (h : 0 < b) : 0 ≤ a.fdiv b := by
  rw [Int.fdiv_eq_ediv_of_nonneg a (by omega)]
  exact Int.ediv_nonneg ha (by omega)
theorem r_cup (n : Nat) (ns : List Int) (h : ns.length ≤ 63) : ∃ c : Cup, R (n + 1) 23 [.fz (Datum.toD ns)] = some (.ow c.d, [.fz (Datum.toD ns)]) := by
  obtain ⟨x, hx⟩ : ∃ x, ixOf (ns ++ [0]) 0 = some x := by
    cases ns with
    | nil => exact ⟨0, rfl⟩
    | cons x r => exact ⟨x, rfl⟩
  have h1 := f2_add_list ns [0] (by unfold SL; simp; omega)
  generalize hc : (if x < 0 then -x else x) = cell
  have hc0 : 0 ≤ cell := by subst hc; split <;> omega
  simp [R_law_cup, c_law_cup, -Option.map_eq_some_iff, -List.map_map, -Option.bind_some, -Option.map_some, obind_some, omap_some, ex_fn, ev_cst, ev_glb, ev_rd, ev_p1, ev_p2, ev_p3, ev_chain, ev_and, ev_or, ev_not, ev_ite, ev_tup, ev_lst, ev_call, ev_mut, ev_oex, ev_opk, ev_peek, ev_snil, ev_scons, ev_anil, ev_aex, ev_abw, ev_cnil, ev_ccons, ev_iex, ev_irng, ev_izip, ev_ienum, ex_asg, ex_unp, ex_par, ex_aug, ex_expr, ex_mutS, ex_ret, ex_ifs, ex_pass, ex_nil, ex_cons, ev_ssnil, ev_sscons, st_lc, st_lc2, st_dc, obind_ite, omap_ite, bnd_ite, mp_ite, bnd_some, mp_some, takeAll, aget_val, aget_own, ownS_list, ownS_dD, nodupN, ownsOf, putBack, dat_fz, dat_ow, thaw_fz, thaw_ow, thaw_emp, get_val, get_at, pre2, owOk, P1.fresh, P2.fresh, P3.fresh, Sl.mk, wipeE, unwipe, ownFree_eq, notOw_fz, notOw_emp, notOw_none, notOw_nz, nz_some, nz_none, bindT_nm, bindT_raw, bindT_pair, bindT_t3, bindT_t4, store, storeS, lcL_nil, lcL_cons, lcPut_some, lcPut_none, f2_eq_nil, f2_ne_nil, int_fold, bool_fold, str_fold, dp_int, dp_bool, dp_str, dp_unit, dp_list, dp_tup, dp_pair, dp_t3, f1_neg, f1_abs, f1_int, f2_add, f2_sub, f2_lt, f2_le, f2_gt, f2_ge, f2_mn2, f2_mx2, augD_add, augD_sub, f1_all, f1_any, f1_sum, f2_in_list, f2_notin_list, f2_in_tup, f2_notin_tup, f2_eq, f2_ne, f2_in_dict, f2_notin_dict, f2_ix_dict, f3_get, pre2_get, pre3_get, preM_append, preM_pop, preM_extend, preM_set, preM_addI, preM_popK, preM_update, fM_pop, fM_popK, h1, hx, hc, f2_pow18, f2_fdiv, f2_mod, f2_mul, small]
  split
  · refine ⟨⟨_, _, ?_, ?_⟩, rfl⟩
    · exact fdiv_lo hc0 (by decide)
    · refine Int.add_nonneg ?_ (by decide)
      exact (fmod_lo _ (by decide)).1
  · refine ⟨⟨_, _, ?_, ?_⟩, rfl⟩
    · decide
    · refine Int.add_nonneg ?_ (by decide)
      exact (fmod_lo _ (by decide)).1
theorem roll_ex (c : Cup) (m : Int) (h : 0 < m ∧ m < 1073741824) : ∃ (r : Int) (c' : Cup), (∀ n, R (n + 1) 24 [.ow c.d, .fz (Datum.toD m)] = some (.fz (Datum.toD r), [.ow c'.d, .fz (Datum.toD m)])) ∧ 0 ≤ r ∧ r < m := by
  have m0 : m ≠ 0 := by omega
  have ma : m.natAbs < 1073741824 := by omega
  obtain ⟨a, b, ha, hb⟩ := c
  by_cases h0 : 0 < a
  · refine ⟨a.fmod m, ⟨a.fdiv m, b, fdiv_lo ha h.1, hb⟩, fun n => ?_, fmod_lo a h.1⟩
    simp [R_law_roll, c_law_roll, Cup.d, -Option.map_eq_some_iff, -List.map_map, -Option.bind_some, -Option.map_some, obind_some, omap_some, ex_fn, ev_cst, ev_glb, ev_rd, ev_p1, ev_p2, ev_p3, ev_chain, ev_and, ev_or, ev_not, ev_ite, ev_tup, ev_lst, ev_call, ev_mut, ev_oex, ev_opk, ev_peek, ev_snil, ev_scons, ev_anil, ev_aex, ev_abw, ev_cnil, ev_ccons, ev_iex, ev_irng, ev_izip, ev_ienum, ex_asg, ex_unp, ex_par, ex_aug, ex_expr, ex_mutS, ex_ret, ex_ifs, ex_pass, ex_nil, ex_cons, ev_ssnil, ev_sscons, st_lc, st_lc2, st_dc, obind_ite, omap_ite, bnd_ite, mp_ite, bnd_some, mp_some, takeAll, aget_val, aget_own, ownS_list, ownS_dD, nodupN, ownsOf, putBack, dat_fz, dat_ow, thaw_fz, thaw_ow, thaw_emp, get_val, get_at, pre2, owOk, P1.fresh, P2.fresh, P3.fresh, Sl.mk, wipeE, unwipe, ownFree_eq, notOw_fz, notOw_emp, notOw_none, notOw_nz, nz_some, nz_none, bindT_nm, bindT_raw, bindT_pair, bindT_t3, bindT_t4, store, storeS, lcL_nil, lcL_cons, lcPut_some, lcPut_none, f2_eq_nil, f2_ne_nil, int_fold, bool_fold, str_fold, dp_int, dp_bool, dp_str, dp_unit, dp_list, dp_tup, dp_pair, dp_t3, f1_neg, f1_abs, f1_int, f2_add, f2_sub, f2_lt, f2_le, f2_gt, f2_ge, f2_mn2, f2_mx2, augD_add, augD_sub, f1_all, f1_any, f1_sum, f2_in_list, f2_notin_list, f2_in_tup, f2_notin_tup, f2_eq, f2_ne, f2_in_dict, f2_notin_dict, f2_ix_dict, f3_get, pre2_get, pre3_get, preM_append, preM_pop, preM_extend, preM_set, preM_addI, preM_popK, preM_update, fM_pop, fM_popK, f2_fdiv, f2_mod, fM_setL, m0, ma, h0, ixOf, ixPlace]
  · have x0 := fmod_lo (b * 30707 + 7757) (b := 2147482951) (by decide)
    refine ⟨((((b * 30707 + 7757).fmod 2147482951 * ((b * 30707 + 7757).fmod 2147482951 + 227)).fmod 2147483059).fdiv 823).fmod m, ⟨a, (b * 30707 + 7757).fmod 2147482951, ha, x0.1⟩, fun n => ?_, fmod_lo _ h.1⟩
    have sx : small ((b * 30707 + 7757).fmod 2147482951) = true := small_ok (by omega) (by omega)
    have sc : small 30707 = true := by decide
    simp [R_law_roll, c_law_roll, Cup.d, -Option.map_eq_some_iff, -List.map_map, -Option.bind_some, -Option.map_some, obind_some, omap_some, ex_fn, ev_cst, ev_glb, ev_rd, ev_p1, ev_p2, ev_p3, ev_chain, ev_and, ev_or, ev_not, ev_ite, ev_tup, ev_lst, ev_call, ev_mut, ev_oex, ev_opk, ev_peek, ev_snil, ev_scons, ev_anil, ev_aex, ev_abw, ev_cnil, ev_ccons, ev_iex, ev_irng, ev_izip, ev_ienum, ex_asg, ex_unp, ex_par, ex_aug, ex_expr, ex_mutS, ex_ret, ex_ifs, ex_pass, ex_nil, ex_cons, ev_ssnil, ev_sscons, st_lc, st_lc2, st_dc, obind_ite, omap_ite, bnd_ite, mp_ite, bnd_some, mp_some, takeAll, aget_val, aget_own, ownS_list, ownS_dD, nodupN, ownsOf, putBack, dat_fz, dat_ow, thaw_fz, thaw_ow, thaw_emp, get_val, get_at, pre2, owOk, P1.fresh, P2.fresh, P3.fresh, Sl.mk, wipeE, unwipe, ownFree_eq, notOw_fz, notOw_emp, notOw_none, notOw_nz, nz_some, nz_none, bindT_nm, bindT_raw, bindT_pair, bindT_t3, bindT_t4, store, storeS, lcL_nil, lcL_cons, lcPut_some, lcPut_none, f2_eq_nil, f2_ne_nil, int_fold, bool_fold, str_fold, dp_int, dp_bool, dp_str, dp_unit, dp_list, dp_tup, dp_pair, dp_t3, f1_neg, f1_abs, f1_int, f2_add, f2_sub, f2_lt, f2_le, f2_gt, f2_ge, f2_mn2, f2_mx2, augD_add, augD_sub, f1_all, f1_any, f1_sum, f2_in_list, f2_notin_list, f2_in_tup, f2_notin_tup, f2_eq, f2_ne, f2_in_dict, f2_notin_dict, f2_ix_dict, f3_get, pre2_get, pre3_get, preM_append, preM_pop, preM_extend, preM_set, preM_addI, preM_popK, preM_update, fM_pop, fM_popK, f2_fdiv, f2_mod, f2_mul, fM_setL, m0, ma, h0, ixOf, ixPlace, sx, sc]
noncomputable def rollV (c : Cup) (m : Int) : Int := if h : 0 < m ∧ m < 1073741824 then (roll_ex c m h).choose else 0
noncomputable def rollC (c : Cup) (m : Int) : Cup := if h : 0 < m ∧ m < 1073741824 then (roll_ex c m h).choose_spec.choose else c
theorem r_roll (n : Nat) (c : Cup) (m : Int) (h : 0 < m ∧ m < 1073741824) : R (n + 1) 24 [.ow c.d, .fz (Datum.toD m)] = some (.fz (Datum.toD (rollV c m)), [.ow (rollC c m).d, .fz (Datum.toD m)]) := by
  unfold rollV rollC
  rw [dif_pos h, dif_pos h]
  exact (roll_ex c m h).choose_spec.choose_spec.1 n
theorem rollV_lt (c : Cup) (m : Int) (h : 0 < m ∧ m < 1073741824) : 0 ≤ rollV c m ∧ rollV c m < m := by
  unfold rollV
  rw [dif_pos h]
  exact (roll_ex c m h).choose_spec.choose_spec.2
noncomputable def pickN (c : Cup) (n : Nat) : Nat := (rollV c n).toNat
theorem pickN_lt (c : Cup) {n : Nat} (h : 0 < n) (h2 : n < 1073741824) : pickN c n < n := by
  have := rollV_lt c n ⟨by omega, by omega⟩
  unfold pickN; omega
/-- one of some things: of data that may be of any kind -/
theorem r_some_raw (n : Nat) (c : Cup) (d : D) (ds : List D) (hd : d = .list ds ∨ d = .tuple ds) (h : 0 < ds.length) (h2 : ds.length < 1073741824) : R (n + 2) 25 [.ow c.d, .fz d] = some (.fz (ds[pickN c ds.length]'(pickN_lt c h h2)), [.ow (rollC c ds.length).d, .fz d]) := by
  have hp := pickN_lt c h h2
  have hr := rollV_lt c ds.length ⟨by omega, by omega⟩
  have e : ixOf ds (rollV c ds.length) = some (ds[pickN c ds.length]'hp) := by
    unfold ixOf
    rw [if_pos hr.1]
    exact List.getElem?_eq_getElem hp
  have hl : f1 .len d = some (Datum.toD (ds.length : Int)) := by rcases hd with rfl | rfl <;> rfl
  have hx : f2 .ix d (Datum.toD (rollV c ds.length)) = some (ds[pickN c ds.length]'hp) := by rcases hd with rfl | rfl <;> exact e
  have hm : ∀ f : Nat, (Ce.call f (.bw 0 (.ex (.p1 .len (.pk 1)) .nil))) = Ce.call f (.bw 0 (.ex (.p1 .len (.pk 1)) .nil)) := fun _ => rfl
  simp [R_law_some, c_law_some, -Option.map_eq_some_iff, -List.map_map, -Option.bind_some, -Option.map_some, obind_some, omap_some, ex_fn, ev_cst, ev_glb, ev_rd, ev_p1, ev_p2, ev_p3, ev_chain, ev_and, ev_or, ev_not, ev_ite, ev_tup, ev_lst, ev_call, ev_mut, ev_oex, ev_opk, ev_peek, ev_snil, ev_scons, ev_anil, ev_aex, ev_abw, ev_cnil, ev_ccons, ev_iex, ev_irng, ev_izip, ev_ienum, ex_asg, ex_unp, ex_par, ex_aug, ex_expr, ex_mutS, ex_ret, ex_ifs, ex_pass, ex_nil, ex_cons, ev_ssnil, ev_sscons, st_lc, st_lc2, st_dc, obind_ite, omap_ite, bnd_ite, mp_ite, bnd_some, mp_some, takeAll, aget_val, aget_own, ownS_list, ownS_dD, nodupN, ownsOf, putBack, dat_fz, dat_ow, thaw_fz, thaw_ow, thaw_emp, get_val, get_at, pre2, owOk, P1.fresh, P2.fresh, P3.fresh, Sl.mk, wipeE, unwipe, ownFree_eq, notOw_fz, notOw_emp, notOw_none, notOw_nz, nz_some, nz_none, bindT_nm, bindT_raw, bindT_pair, bindT_t3, bindT_t4, store, storeS, lcL_nil, lcL_cons, lcPut_some, lcPut_none, f2_eq_nil, f2_ne_nil, int_fold, bool_fold, str_fold, dp_int, dp_bool, dp_str, dp_unit, dp_list, dp_tup, dp_pair, dp_t3, f1_neg, f1_abs, f1_int, f2_add, f2_sub, f2_lt, f2_le, f2_gt, f2_ge, f2_mn2, f2_mx2, augD_add, augD_sub, f1_all, f1_any, f1_sum, f2_in_list, f2_notin_list, f2_in_tup, f2_notin_tup, f2_eq, f2_ne, f2_in_dict, f2_notin_dict, f2_ix_dict, f3_get, pre2_get, pre3_get, preM_append, preM_pop, preM_extend, preM_set, preM_addI, preM_popK, preM_update, fM_pop, fM_popK, ownS_cup, hl, r_roll, show 0 < ds.length from h, show (ds.length : Int) < 1073741824 by omega, hx]
section
variable {α : Type} [DecidableEq α] [Datum α]
theorem pick_lt (c : Cup) {xs : List α} (h : xs ≠ []) (h2 : xs.length < 1073741824) : pickN c xs.length < xs.length := pickN_lt c (List.length_pos_iff.mpr h) h2
noncomputable def pick (c : Cup) (xs : List α) (h : xs ≠ []) : α := xs.getD (pickN c xs.length) (xs.head h)
theorem pick_mem (c : Cup) (xs : List α) (h : xs ≠ []) : pick c xs h ∈ xs := by
  unfold pick
  rw [List.getD_eq_getElem?_getD]
  cases e : xs[pickN c xs.length]? with
  | none => exact List.head_mem h
  | some a => exact List.mem_of_getElem? e
theorem r_some_list (n : Nat) (c : Cup) (xs : List α) (h : xs ≠ []) (h2 : xs.length < 1073741824) : R (n + 2) 25 [.ow c.d, .fz (Datum.toD xs)] = some (.fz (Datum.toD (pick c xs h)), [.ow (rollC c xs.length).d, .fz (Datum.toD xs)]) := by
  have hl : 0 < (xs.map (Datum.toD (α := α))).length := by rw [List.length_map]; exact List.length_pos_iff.mpr h
  have h3 : (xs.map (Datum.toD (α := α))).length < 1073741824 := by rw [List.length_map]; exact h2
  have e := r_some_raw n c (Datum.toD xs) (xs.map Datum.toD) (.inl rfl) hl h3
  rw [e]
  have hp := pick_lt c h h2
  unfold pick
  simp only [List.length_map, List.getElem_map]
  rw [List.getD_eq_getElem?_getD, List.getElem?_eq_getElem hp]; rfl
theorem r_some_tup (n : Nat) (c : Cup) (xs : List α) (h : xs ≠ []) (h2 : xs.length < 1073741824) : R (n + 2) 25 [.ow c.d, .fz (Datum.toD (Tup.mk xs))] = some (.fz (Datum.toD (pick c xs h)), [.ow (rollC c xs.length).d, .fz (Datum.toD (Tup.mk xs))]) := by
  have hl : 0 < (xs.map (Datum.toD (α := α))).length := by rw [List.length_map]; exact List.length_pos_iff.mpr h
  have h3 : (xs.map (Datum.toD (α := α))).length < 1073741824 := by rw [List.length_map]; exact h2
  have e := r_some_raw n c (Datum.toD (Tup.mk xs)) (xs.map Datum.toD) (.inr rfl) hl h3
  rw [e]
  have hp := pick_lt c h h2
  unfold pick
  simp only [List.length_map, List.getElem_map]
  rw [List.getD_eq_getElem?_getD, List.getElem?_eq_getElem hp]; rfl
end
/-! alike with itself -/
def ttI (_ : Int) : Bool := true
theorem same_tuple (m : Nat) (xs : List D) (hl : xs.length ≤ SL) (ih : ∀ x ∈ xs, R m 26 [.fz x, .fz x] = some (.fz (Datum.toD true), [.fz x, .fz x])) : R (m + 1) 26 [.fz (.tuple xs), .fz (.tuple xs)] = some (.fz (Datum.toD true), [.fz (.tuple xs), .fz (.tuple xs)]) := by
  have h1 : evalE cons (R m) e_law_same_1 [.fz (.tuple xs), .fz (.tuple xs), .emp] = some (.ow (Datum.toD ((rangeT 0 xs.length).map ttI)), [.fz (.tuple xs), .fz (.tuple xs), .emp]) := by
    have fl : fits62 xs.length = true := fits62_of (by omega) (by unfold SL at hl; omega)
    refine (lc_M (g := ttI) (xs := rangeT 0 xs.length) (by simp [-Option.map_eq_some_iff, -List.map_map, -Option.bind_some, -Option.map_some, obind_some, omap_some, ex_fn, ev_cst, ev_glb, ev_rd, ev_p1, ev_p2, ev_p3, ev_chain, ev_and, ev_or, ev_not, ev_ite, ev_tup, ev_lst, ev_call, ev_mut, ev_oex, ev_opk, ev_peek, ev_snil, ev_scons, ev_anil, ev_aex, ev_abw, ev_cnil, ev_ccons, ev_iex, ev_irng, ev_izip, ev_ienum, ex_asg, ex_unp, ex_par, ex_aug, ex_expr, ex_mutS, ex_ret, ex_ifs, ex_pass, ex_nil, ex_cons, ev_ssnil, ev_sscons, st_lc, st_lc2, st_dc, obind_ite, omap_ite, bnd_ite, mp_ite, bnd_some, mp_some, takeAll, aget_val, aget_own, ownS_list, ownS_dD, nodupN, ownsOf, putBack, dat_fz, dat_ow, thaw_fz, thaw_ow, thaw_emp, get_val, get_at, pre2, owOk, P1.fresh, P2.fresh, P3.fresh, Sl.mk, wipeE, unwipe, ownFree_eq, notOw_fz, notOw_emp, notOw_none, notOw_nz, nz_some, nz_none, bindT_nm, bindT_raw, bindT_pair, bindT_t3, bindT_t4, store, storeS, lcL_nil, lcL_cons, lcPut_some, lcPut_none, f2_eq_nil, f2_ne_nil, int_fold, bool_fold, str_fold, dp_int, dp_bool, dp_str, dp_unit, dp_list, dp_tup, dp_pair, dp_t3, f1_neg, f1_abs, f1_int, f2_add, f2_sub, f2_lt, f2_le, f2_gt, f2_ge, f2_mn2, f2_mx2, augD_add, augD_sub, f1_all, f1_any, f1_sum, f2_in_list, f2_notin_list, f2_in_tup, f2_notin_tup, f2_eq, f2_ne, f2_in_dict, f2_notin_dict, f2_ix_dict, f3_get, pre2_get, pre3_get, preM_append, preM_pop, preM_extend, preM_set, preM_addI, preM_popK, preM_update, fM_pop, fM_popK, rangeOf_1, fl] <;> rfl) rfl (by rw [length_rangeT, Int.sub_zero, Int.toNat_natCast]; exact hl) ?_).trans (by simp [-Option.map_eq_some_iff, -List.map_map, -Option.bind_some, -Option.map_some, obind_some, omap_some, ex_fn, ev_cst, ev_glb, ev_rd, ev_p1, ev_p2, ev_p3, ev_chain, ev_and, ev_or, ev_not, ev_ite, ev_tup, ev_lst, ev_call, ev_mut, ev_oex, ev_opk, ev_peek, ev_snil, ev_scons, ev_anil, ev_aex, ev_abw, ev_cnil, ev_ccons, ev_iex, ev_irng, ev_izip, ev_ienum, ex_asg, ex_unp, ex_par, ex_aug, ex_expr, ex_mutS, ex_ret, ex_ifs, ex_pass, ex_nil, ex_cons, ev_ssnil, ev_sscons, st_lc, st_lc2, st_dc, obind_ite, omap_ite, bnd_ite, mp_ite, bnd_some, mp_some, takeAll, aget_val, aget_own, ownS_list, ownS_dD, nodupN, ownsOf, putBack, dat_fz, dat_ow, thaw_fz, thaw_ow, thaw_emp, get_val, get_at, pre2, owOk, P1.fresh, P2.fresh, P3.fresh, Sl.mk, wipeE, unwipe, ownFree_eq, notOw_fz, notOw_emp, notOw_none, notOw_nz, nz_some, nz_none, bindT_nm, bindT_raw, bindT_pair, bindT_t3, bindT_t4, store, storeS, lcL_nil, lcL_cons, lcPut_some, lcPut_none, f2_eq_nil, f2_ne_nil, int_fold, bool_fold, str_fold, dp_int, dp_bool, dp_str, dp_unit, dp_list, dp_tup, dp_pair, dp_t3, f1_neg, f1_abs, f1_int, f2_add, f2_sub, f2_lt, f2_le, f2_gt, f2_ge, f2_mn2, f2_mx2, augD_add, augD_sub, f1_all, f1_any, f1_sum, f2_in_list, f2_notin_list, f2_in_tup, f2_notin_tup, f2_eq, f2_ne, f2_in_dict, f2_notin_dict, f2_ix_dict, f3_get, pre2_get, pre3_get, preM_append, preM_pop, preM_extend, preM_set, preM_addI, preM_popK, preM_update, fM_pop, fM_popK])
    intro i hi
    have hi := mem_rangeT.mp hi
    have hx : ixOf xs i = some (xs[i.toNat]'(by omega)) := by
      unfold ixOf
      rw [if_pos hi.1]
      exact List.getElem?_eq_getElem _
    have hr := ih _ (List.getElem_mem (show i.toNat < xs.length by omega))
    simp [-Option.map_eq_some_iff, -List.map_map, -Option.bind_some, -Option.map_some, obind_some, omap_some, ex_fn, ev_cst, ev_glb, ev_rd, ev_p1, ev_p2, ev_p3, ev_chain, ev_and, ev_or, ev_not, ev_ite, ev_tup, ev_lst, ev_call, ev_mut, ev_oex, ev_opk, ev_peek, ev_snil, ev_scons, ev_anil, ev_aex, ev_abw, ev_cnil, ev_ccons, ev_iex, ev_irng, ev_izip, ev_ienum, ex_asg, ex_unp, ex_par, ex_aug, ex_expr, ex_mutS, ex_ret, ex_ifs, ex_pass, ex_nil, ex_cons, ev_ssnil, ev_sscons, st_lc, st_lc2, st_dc, obind_ite, omap_ite, bnd_ite, mp_ite, bnd_some, mp_some, takeAll, aget_val, aget_own, ownS_list, ownS_dD, nodupN, ownsOf, putBack, dat_fz, dat_ow, thaw_fz, thaw_ow, thaw_emp, get_val, get_at, pre2, owOk, P1.fresh, P2.fresh, P3.fresh, Sl.mk, wipeE, unwipe, ownFree_eq, notOw_fz, notOw_emp, notOw_none, notOw_nz, nz_some, nz_none, bindT_nm, bindT_raw, bindT_pair, bindT_t3, bindT_t4, store, storeS, lcL_nil, lcL_cons, lcPut_some, lcPut_none, f2_eq_nil, f2_ne_nil, int_fold, bool_fold, str_fold, dp_int, dp_bool, dp_str, dp_unit, dp_list, dp_tup, dp_pair, dp_t3, f1_neg, f1_abs, f1_int, f2_add, f2_sub, f2_lt, f2_le, f2_gt, f2_ge, f2_mn2, f2_mx2, augD_add, augD_sub, f1_all, f1_any, f1_sum, f2_in_list, f2_notin_list, f2_in_tup, f2_notin_tup, f2_eq, f2_ne, f2_in_dict, f2_notin_dict, f2_ix_dict, f3_get, pre2_get, pre3_get, preM_append, preM_pop, preM_extend, preM_set, preM_addI, preM_popK, preM_update, fM_pop, fM_popK, hx, hr, ttI]
  have ha : ((rangeT 0 xs.length).map ttI).all id = true := by simp [ttI]
  simp [R_law_same, c_law_same, -Option.map_eq_some_iff, -List.map_map, -Option.bind_some, -Option.map_some, obind_some, omap_some, ex_fn, ev_cst, ev_glb, ev_rd, ev_p1, ev_p2, ev_p3, ev_chain, ev_and, ev_or, ev_not, ev_ite, ev_tup, ev_lst, ev_call, ev_mut, ev_oex, ev_opk, ev_peek, ev_snil, ev_scons, ev_anil, ev_aex, ev_abw, ev_cnil, ev_ccons, ev_iex, ev_irng, ev_izip, ev_ienum, ex_asg, ex_unp, ex_par, ex_aug, ex_expr, ex_mutS, ex_ret, ex_ifs, ex_pass, ex_nil, ex_cons, ev_ssnil, ev_sscons, st_lc, st_lc2, st_dc, obind_ite, omap_ite, bnd_ite, mp_ite, bnd_some, mp_some, takeAll, aget_val, aget_own, ownS_list, ownS_dD, nodupN, ownsOf, putBack, dat_fz, dat_ow, thaw_fz, thaw_ow, thaw_emp, get_val, get_at, pre2, owOk, P1.fresh, P2.fresh, P3.fresh, Sl.mk, wipeE, unwipe, ownFree_eq, notOw_fz, notOw_emp, notOw_none, notOw_nz, nz_some, nz_none, bindT_nm, bindT_raw, bindT_pair, bindT_t3, bindT_t4, store, storeS, lcL_nil, lcL_cons, lcPut_some, lcPut_none, f2_eq_nil, f2_ne_nil, int_fold, bool_fold, str_fold, dp_int, dp_bool, dp_str, dp_unit, dp_list, dp_tup, dp_pair, dp_t3, f1_neg, f1_abs, f1_int, f2_add, f2_sub, f2_lt, f2_le, f2_gt, f2_ge, f2_mn2, f2_mx2, augD_add, augD_sub, f1_all, f1_any, f1_sum, f2_in_list, f2_notin_list, f2_in_tup, f2_notin_tup, f2_eq, f2_ne, f2_in_dict, f2_notin_dict, f2_ix_dict, f3_get, pre2_get, pre3_get, preM_append, preM_pop, preM_extend, preM_set, preM_addI, preM_popK, preM_update, fM_pop, fM_popK, h1, ha]
theorem same_atom (m : Nat) (d : D) (hs : sameOk d = true) (ht : ∀ xs, d ≠ .tuple xs) : R (m + 1) 26 [.fz d, .fz d] = some (.fz (Datum.toD true), [.fz d, .fz d]) := by
  cases d with
  | none => rfl
  | bool b => cases b <;> rfl
  | int i => simp [R_law_same, c_law_same, -Option.map_eq_some_iff, -List.map_map, -Option.bind_some, -Option.map_some, obind_some, omap_some, ex_fn, ev_cst, ev_glb, ev_rd, ev_p1, ev_p2, ev_p3, ev_chain, ev_and, ev_or, ev_not, ev_ite, ev_tup, ev_lst, ev_call, ev_mut, ev_oex, ev_opk, ev_peek, ev_snil, ev_scons, ev_anil, ev_aex, ev_abw, ev_cnil, ev_ccons, ev_iex, ev_irng, ev_izip, ev_ienum, ex_asg, ex_unp, ex_par, ex_aug, ex_expr, ex_mutS, ex_ret, ex_ifs, ex_pass, ex_nil, ex_cons, ev_ssnil, ev_sscons, st_lc, st_lc2, st_dc, obind_ite, omap_ite, bnd_ite, mp_ite, bnd_some, mp_some, takeAll, aget_val, aget_own, ownS_list, ownS_dD, nodupN, ownsOf, putBack, dat_fz, dat_ow, thaw_fz, thaw_ow, thaw_emp, get_val, get_at, pre2, owOk, P1.fresh, P2.fresh, P3.fresh, Sl.mk, wipeE, unwipe, ownFree_eq, notOw_fz, notOw_emp, notOw_none, notOw_nz, nz_some, nz_none, bindT_nm, bindT_raw, bindT_pair, bindT_t3, bindT_t4, store, storeS, lcL_nil, lcL_cons, lcPut_some, lcPut_none, f2_eq_nil, f2_ne_nil, int_fold, bool_fold, str_fold, dp_int, dp_bool, dp_str, dp_unit, dp_list, dp_tup, dp_pair, dp_t3, f1_neg, f1_abs, f1_int, f2_add, f2_sub, f2_lt, f2_le, f2_gt, f2_ge, f2_mn2, f2_mx2, augD_add, augD_sub, f1_all, f1_any, f1_sum, f2_in_list, f2_notin_list, f2_in_tup, f2_notin_tup, f2_eq, f2_ne, f2_in_dict, f2_notin_dict, f2_ix_dict, f3_get, pre2_get, pre3_get, preM_append, preM_pop, preM_extend, preM_set, preM_addI, preM_popK, preM_update, fM_pop, fM_popK]
  | str s => simp [R_law_same, c_law_same, -Option.map_eq_some_iff, -List.map_map, -Option.bind_some, -Option.map_some, obind_some, omap_some, ex_fn, ev_cst, ev_glb, ev_rd, ev_p1, ev_p2, ev_p3, ev_chain, ev_and, ev_or, ev_not, ev_ite, ev_tup, ev_lst, ev_call, ev_mut, ev_oex, ev_opk, ev_peek, ev_snil, ev_scons, ev_anil, ev_aex, ev_abw, ev_cnil, ev_ccons, ev_iex, ev_irng, ev_izip, ev_ienum, ex_asg, ex_unp, ex_par, ex_aug, ex_expr, ex_mutS, ex_ret, ex_ifs, ex_pass, ex_nil, ex_cons, ev_ssnil, ev_sscons, st_lc, st_lc2, st_dc, obind_ite, omap_ite, bnd_ite, mp_ite, bnd_some, mp_some, takeAll, aget_val, aget_own, ownS_list, ownS_dD, nodupN, ownsOf, putBack, dat_fz, dat_ow, thaw_fz, thaw_ow, thaw_emp, get_val, get_at, pre2, owOk, P1.fresh, P2.fresh, P3.fresh, Sl.mk, wipeE, unwipe, ownFree_eq, notOw_fz, notOw_emp, notOw_none, notOw_nz, nz_some, nz_none, bindT_nm, bindT_raw, bindT_pair, bindT_t3, bindT_t4, store, storeS, lcL_nil, lcL_cons, lcPut_some, lcPut_none, f2_eq_nil, f2_ne_nil, int_fold, bool_fold, str_fold, dp_int, dp_bool, dp_str, dp_unit, dp_list, dp_tup, dp_pair, dp_t3, f1_neg, f1_abs, f1_int, f2_add, f2_sub, f2_lt, f2_le, f2_gt, f2_ge, f2_mn2, f2_mx2, augD_add, augD_sub, f1_all, f1_any, f1_sum, f2_in_list, f2_notin_list, f2_in_tup, f2_notin_tup, f2_eq, f2_ne, f2_in_dict, f2_notin_dict, f2_ix_dict, f3_get, pre2_get, pre3_get, preM_append, preM_pop, preM_extend, preM_set, preM_addI, preM_popK, preM_update, fM_pop, fM_popK]
  | tuple xs => exact absurd rfl (ht xs)
  | list xs => simp [sameOk] at hs
  | dict kvs => simp [sameOk] at hs
theorem r_same_refl : ∀ (k : Nat) (d : D), sameOk d = true → d.depth ≤ k → ∀ n, R (n + k + 1) 26 [.fz d, .fz d] = some (.fz (Datum.toD true), [.fz d, .fz d]) := by
  intro k
  induction k with
  | zero =>
    intro d hs hd n
    refine same_atom _ d hs ?_
    rintro xs rfl
    simp [PyData.depth] at hd
  | succ k ih =>
    intro d hs hd n
    by_cases ht : ∃ xs, d = .tuple xs
    · obtain ⟨xs, rfl⟩ := ht
      rw [sameOk, Bool.and_eq_true, decide_eq_true_eq] at hs
      rw [PyData.depth] at hd
      exact same_tuple (n + k + 1) xs hs.1 fun x hx => ih x (sameAll_mem hs.2 x hx) (Nat.le_trans (depthAll_mem x hx) (by omega)) n
    · exact same_atom _ d hs fun xs e => ht ⟨xs, e⟩
section
variable {α : Type} [DecidableEq α] [Datum α]
theorem r_same (n : Nat) (k : Nat) (a : α) (h : sameOk (Datum.toD a) = true) (hk : Datum.depth α ≤ k) : R (n + k + 1) 26 [.fz (Datum.toD a), .fz (Datum.toD a)] = some (.fz (Datum.toD true), [.fz (Datum.toD a), .fz (Datum.toD a)]) := r_same_refl k _ h (Nat.le_trans (Datum.depth_le a) hk) n
end

end G94
end

section
set_option maxRecDepth 100000
set_option linter.all false
namespace G94
open Ky PySem PySem.W
/-! marks: cells of a box, ascending -/
theorem cut_tail {α : Type} (xs : List α) : cut xs (some 1) none = xs.tail := by
  unfold cut cutIx
  cases xs with
  | nil => rfl
  | cons x r =>
    simp only [show ¬ ((1 : Int) < 0) by decide, if_false, List.length_cons, List.tail_cons]
    rw [show min (1 : Int).toNat (r.length + 1) = 1 from by simp]
    simp
section
variable {α : Type} [DecidableEq α] [DatumOrd α]
def risingB (xs : List α) : Bool := (xs.zip xs.tail).all fun p => DatumOrd.lt p.1 p.2
theorem risingB_cons (x y : α) (r : List α) : risingB (x :: y :: r) = (DatumOrd.lt x y && risingB (y :: r)) := rfl
theorem risingB_iff : ∀ xs : List α, risingB xs = true ↔ Rising xs
  | [] => ⟨fun _ => List.Pairwise.nil, fun _ => rfl⟩
  | [x] => ⟨fun _ => List.pairwise_singleton _ _, fun _ => rfl⟩
  | x :: y :: r => by
    rw [risingB_cons, Bool.and_eq_true, risingB_iff (y :: r)]
    unfold Rising
    constructor
    · rintro ⟨h1, h2⟩
      rw [List.pairwise_cons]
      refine ⟨?_, h2⟩
      intro z hz
      rcases List.mem_cons.mp hz with rfl | hz
      · exact h1
      · exact lt_trans h1 ((List.pairwise_cons.mp h2).1 z hz)
    · intro h
      rw [List.pairwise_cons] at h
      exact ⟨h.1 y List.mem_cons_self, h.2⟩
end
theorem r_is_rising (n : Nat) (xs : List Cell) (h : xs.length ≤ 16777215) : R (n + 1) 3 [.fz (Datum.toD (Tup.mk xs))] = some (.fz (Datum.toD (risingB xs)), [.fz (Datum.toD (Tup.mk xs))]) := by
  have h1 : evalE cons (R n) e_is_rising_1 [.fz (Datum.toD (Tup.mk xs)), .emp, .emp] = some (.ow (Datum.toD ((xs.zip xs.tail).map fun p => DatumOrd.lt p.1 p.2)), [.fz (Datum.toD (Tup.mk xs)), .emp, .emp]) := by
    refine (lc_M (g := fun p : Cell × Cell => DatumOrd.lt p.1 p.2) (xs := xs.zip xs.tail) (by simp [-Option.map_eq_some_iff, -List.map_map, -Option.bind_some, -Option.map_some, obind_some, omap_some, ex_fn, ev_cst, ev_glb, ev_rd, ev_p1, ev_p2, ev_p3, ev_chain, ev_and, ev_or, ev_not, ev_ite, ev_tup, ev_lst, ev_call, ev_mut, ev_oex, ev_opk, ev_peek, ev_snil, ev_scons, ev_anil, ev_aex, ev_abw, ev_cnil, ev_ccons, ev_iex, ev_irng, ev_izip, ev_ienum, ex_asg, ex_unp, ex_par, ex_aug, ex_expr, ex_mutS, ex_ret, ex_ifs, ex_pass, ex_nil, ex_cons, ev_ssnil, ev_sscons, st_lc, st_lc2, st_dc, obind_ite, omap_ite, bnd_ite, mp_ite, bnd_some, mp_some, takeAll, aget_val, aget_own, ownS_list, ownS_dD, nodupN, ownsOf, putBack, dat_fz, dat_ow, thaw_fz, thaw_ow, thaw_emp, get_val, get_at, pre2, owOk, P1.fresh, P2.fresh, P3.fresh, Sl.mk, wipeE, unwipe, ownFree_eq, notOw_fz, notOw_emp, notOw_none, notOw_nz, nz_some, nz_none, bindT_nm, bindT_raw, bindT_pair, bindT_t3, bindT_t4, store, storeS, lcL_nil, lcL_cons, lcPut_some, lcPut_none, f2_eq_nil, f2_ne_nil, int_fold, bool_fold, str_fold, dp_int, dp_bool, dp_str, dp_unit, dp_list, dp_tup, dp_pair, dp_t3, f1_neg, f1_abs, f1_int, f2_add, f2_sub, f2_lt, f2_le, f2_gt, f2_ge, f2_mn2, f2_mx2, augD_add, augD_sub, f1_all, f1_any, f1_sum, f2_in_list, f2_notin_list, f2_in_tup, f2_notin_tup, f2_eq, f2_ne, f2_in_dict, f2_notin_dict, f2_ix_dict, f3_get, pre2_get, pre3_get, preM_append, preM_pop, preM_extend, preM_set, preM_addI, preM_popK, preM_update, fM_pop, fM_popK, cut_tail] <;> rfl) rfl (by rw [List.length_zip]; unfold SL; omega) ?_).trans (by simp [-Option.map_eq_some_iff, -List.map_map, -Option.bind_some, -Option.map_some, obind_some, omap_some, ex_fn, ev_cst, ev_glb, ev_rd, ev_p1, ev_p2, ev_p3, ev_chain, ev_and, ev_or, ev_not, ev_ite, ev_tup, ev_lst, ev_call, ev_mut, ev_oex, ev_opk, ev_peek, ev_snil, ev_scons, ev_anil, ev_aex, ev_abw, ev_cnil, ev_ccons, ev_iex, ev_irng, ev_izip, ev_ienum, ex_asg, ex_unp, ex_par, ex_aug, ex_expr, ex_mutS, ex_ret, ex_ifs, ex_pass, ex_nil, ex_cons, ev_ssnil, ev_sscons, st_lc, st_lc2, st_dc, obind_ite, omap_ite, bnd_ite, mp_ite, bnd_some, mp_some, takeAll, aget_val, aget_own, ownS_list, ownS_dD, nodupN, ownsOf, putBack, dat_fz, dat_ow, thaw_fz, thaw_ow, thaw_emp, get_val, get_at, pre2, owOk, P1.fresh, P2.fresh, P3.fresh, Sl.mk, wipeE, unwipe, ownFree_eq, notOw_fz, notOw_emp, notOw_none, notOw_nz, nz_some, nz_none, bindT_nm, bindT_raw, bindT_pair, bindT_t3, bindT_t4, store, storeS, lcL_nil, lcL_cons, lcPut_some, lcPut_none, f2_eq_nil, f2_ne_nil, int_fold, bool_fold, str_fold, dp_int, dp_bool, dp_str, dp_unit, dp_list, dp_tup, dp_pair, dp_t3, f1_neg, f1_abs, f1_int, f2_add, f2_sub, f2_lt, f2_le, f2_gt, f2_ge, f2_mn2, f2_mx2, augD_add, augD_sub, f1_all, f1_any, f1_sum, f2_in_list, f2_notin_list, f2_in_tup, f2_notin_tup, f2_eq, f2_ne, f2_in_dict, f2_notin_dict, f2_ix_dict, f3_get, pre2_get, pre3_get, preM_append, preM_pop, preM_extend, preM_set, preM_addI, preM_popK, preM_update, fM_pop, fM_popK])
    intro p _
    have hl := f2_lt_t3 p.1 p.2 (by decide)
    simp [-Option.map_eq_some_iff, -List.map_map, -Option.bind_some, -Option.map_some, obind_some, omap_some, ex_fn, ev_cst, ev_glb, ev_rd, ev_p1, ev_p2, ev_p3, ev_chain, ev_and, ev_or, ev_not, ev_ite, ev_tup, ev_lst, ev_call, ev_mut, ev_oex, ev_opk, ev_peek, ev_snil, ev_scons, ev_anil, ev_aex, ev_abw, ev_cnil, ev_ccons, ev_iex, ev_irng, ev_izip, ev_ienum, ex_asg, ex_unp, ex_par, ex_aug, ex_expr, ex_mutS, ex_ret, ex_ifs, ex_pass, ex_nil, ex_cons, ev_ssnil, ev_sscons, st_lc, st_lc2, st_dc, obind_ite, omap_ite, bnd_ite, mp_ite, bnd_some, mp_some, takeAll, aget_val, aget_own, ownS_list, ownS_dD, nodupN, ownsOf, putBack, dat_fz, dat_ow, thaw_fz, thaw_ow, thaw_emp, get_val, get_at, pre2, owOk, P1.fresh, P2.fresh, P3.fresh, Sl.mk, wipeE, unwipe, ownFree_eq, notOw_fz, notOw_emp, notOw_none, notOw_nz, nz_some, nz_none, bindT_nm, bindT_raw, bindT_pair, bindT_t3, bindT_t4, store, storeS, lcL_nil, lcL_cons, lcPut_some, lcPut_none, f2_eq_nil, f2_ne_nil, int_fold, bool_fold, str_fold, dp_int, dp_bool, dp_str, dp_unit, dp_list, dp_tup, dp_pair, dp_t3, f1_neg, f1_abs, f1_int, f2_add, f2_sub, f2_lt, f2_le, f2_gt, f2_ge, f2_mn2, f2_mx2, augD_add, augD_sub, f1_all, f1_any, f1_sum, f2_in_list, f2_notin_list, f2_in_tup, f2_notin_tup, f2_eq, f2_ne, f2_in_dict, f2_notin_dict, f2_ix_dict, f3_get, pre2_get, pre3_get, preM_append, preM_pop, preM_extend, preM_set, preM_addI, preM_popK, preM_update, fM_pop, fM_popK, hl]
  simp [R_is_rising, c_is_rising, -Option.map_eq_some_iff, -List.map_map, -Option.bind_some, -Option.map_some, obind_some, omap_some, ex_fn, ev_cst, ev_glb, ev_rd, ev_p1, ev_p2, ev_p3, ev_chain, ev_and, ev_or, ev_not, ev_ite, ev_tup, ev_lst, ev_call, ev_mut, ev_oex, ev_opk, ev_peek, ev_snil, ev_scons, ev_anil, ev_aex, ev_abw, ev_cnil, ev_ccons, ev_iex, ev_irng, ev_izip, ev_ienum, ex_asg, ex_unp, ex_par, ex_aug, ex_expr, ex_mutS, ex_ret, ex_ifs, ex_pass, ex_nil, ex_cons, ev_ssnil, ev_sscons, st_lc, st_lc2, st_dc, obind_ite, omap_ite, bnd_ite, mp_ite, bnd_some, mp_some, takeAll, aget_val, aget_own, ownS_list, ownS_dD, nodupN, ownsOf, putBack, dat_fz, dat_ow, thaw_fz, thaw_ow, thaw_emp, get_val, get_at, pre2, owOk, P1.fresh, P2.fresh, P3.fresh, Sl.mk, wipeE, unwipe, ownFree_eq, notOw_fz, notOw_emp, notOw_none, notOw_nz, nz_some, nz_none, bindT_nm, bindT_raw, bindT_pair, bindT_t3, bindT_t4, store, storeS, lcL_nil, lcL_cons, lcPut_some, lcPut_none, f2_eq_nil, f2_ne_nil, int_fold, bool_fold, str_fold, dp_int, dp_bool, dp_str, dp_unit, dp_list, dp_tup, dp_pair, dp_t3, f1_neg, f1_abs, f1_int, f2_add, f2_sub, f2_lt, f2_le, f2_gt, f2_ge, f2_mn2, f2_mx2, augD_add, augD_sub, f1_all, f1_any, f1_sum, f2_in_list, f2_notin_list, f2_in_tup, f2_notin_tup, f2_eq, f2_ne, f2_in_dict, f2_notin_dict, f2_ix_dict, f3_get, pre2_get, pre3_get, preM_append, preM_pop, preM_extend, preM_set, preM_addI, preM_popK, preM_update, fM_pop, fM_popK, h1, risingB, List.all_map, Function.comp_def]
def marksOk (s : Cell) (ms : List Cell) : Bool := (ms.all fun c => okC c && inB s c) && risingB ms
theorem r_fits_marks (n : Nat) (s : Cell) (ms : List Cell) (h : ms.length ≤ 16777215) : R (n + 4) 11 [.fz (Datum.toD s), .fz (Datum.toD (Tup.mk ms))] = some (.fz (Datum.toD (marksOk s ms)), [.fz (Datum.toD s), .fz (Datum.toD (Tup.mk ms))]) := by
  have h1 : evalE cons (R (n + 3)) e_fits_marks_1 [.fz (Datum.toD s), .fz (Datum.toD (Tup.mk ms)), .emp] = some (.ow (Datum.toD (ms.map fun c => okC c && inB s c)), [.fz (Datum.toD s), .fz (Datum.toD (Tup.mk ms)), .emp]) := by
    refine (lc_M (g := fun c => okC c && inB s c) (xs := ms) (by simp [-Option.map_eq_some_iff, -List.map_map, -Option.bind_some, -Option.map_some, obind_some, omap_some, ex_fn, ev_cst, ev_glb, ev_rd, ev_p1, ev_p2, ev_p3, ev_chain, ev_and, ev_or, ev_not, ev_ite, ev_tup, ev_lst, ev_call, ev_mut, ev_oex, ev_opk, ev_peek, ev_snil, ev_scons, ev_anil, ev_aex, ev_abw, ev_cnil, ev_ccons, ev_iex, ev_irng, ev_izip, ev_ienum, ex_asg, ex_unp, ex_par, ex_aug, ex_expr, ex_mutS, ex_ret, ex_ifs, ex_pass, ex_nil, ex_cons, ev_ssnil, ev_sscons, st_lc, st_lc2, st_dc, obind_ite, omap_ite, bnd_ite, mp_ite, bnd_some, mp_some, takeAll, aget_val, aget_own, ownS_list, ownS_dD, nodupN, ownsOf, putBack, dat_fz, dat_ow, thaw_fz, thaw_ow, thaw_emp, get_val, get_at, pre2, owOk, P1.fresh, P2.fresh, P3.fresh, Sl.mk, wipeE, unwipe, ownFree_eq, notOw_fz, notOw_emp, notOw_none, notOw_nz, nz_some, nz_none, bindT_nm, bindT_raw, bindT_pair, bindT_t3, bindT_t4, store, storeS, lcL_nil, lcL_cons, lcPut_some, lcPut_none, f2_eq_nil, f2_ne_nil, int_fold, bool_fold, str_fold, dp_int, dp_bool, dp_str, dp_unit, dp_list, dp_tup, dp_pair, dp_t3, f1_neg, f1_abs, f1_int, f2_add, f2_sub, f2_lt, f2_le, f2_gt, f2_ge, f2_mn2, f2_mx2, augD_add, augD_sub, f1_all, f1_any, f1_sum, f2_in_list, f2_notin_list, f2_in_tup, f2_notin_tup, f2_eq, f2_ne, f2_in_dict, f2_notin_dict, f2_ix_dict, f3_get, pre2_get, pre3_get, preM_append, preM_pop, preM_extend, preM_set, preM_addI, preM_popK, preM_update, fM_pop, fM_popK] <;> rfl) rfl (by unfold SL; omega) ?_).trans (by simp [-Option.map_eq_some_iff, -List.map_map, -Option.bind_some, -Option.map_some, obind_some, omap_some, ex_fn, ev_cst, ev_glb, ev_rd, ev_p1, ev_p2, ev_p3, ev_chain, ev_and, ev_or, ev_not, ev_ite, ev_tup, ev_lst, ev_call, ev_mut, ev_oex, ev_opk, ev_peek, ev_snil, ev_scons, ev_anil, ev_aex, ev_abw, ev_cnil, ev_ccons, ev_iex, ev_irng, ev_izip, ev_ienum, ex_asg, ex_unp, ex_par, ex_aug, ex_expr, ex_mutS, ex_ret, ex_ifs, ex_pass, ex_nil, ex_cons, ev_ssnil, ev_sscons, st_lc, st_lc2, st_dc, obind_ite, omap_ite, bnd_ite, mp_ite, bnd_some, mp_some, takeAll, aget_val, aget_own, ownS_list, ownS_dD, nodupN, ownsOf, putBack, dat_fz, dat_ow, thaw_fz, thaw_ow, thaw_emp, get_val, get_at, pre2, owOk, P1.fresh, P2.fresh, P3.fresh, Sl.mk, wipeE, unwipe, ownFree_eq, notOw_fz, notOw_emp, notOw_none, notOw_nz, nz_some, nz_none, bindT_nm, bindT_raw, bindT_pair, bindT_t3, bindT_t4, store, storeS, lcL_nil, lcL_cons, lcPut_some, lcPut_none, f2_eq_nil, f2_ne_nil, int_fold, bool_fold, str_fold, dp_int, dp_bool, dp_str, dp_unit, dp_list, dp_tup, dp_pair, dp_t3, f1_neg, f1_abs, f1_int, f2_add, f2_sub, f2_lt, f2_le, f2_gt, f2_ge, f2_mn2, f2_mx2, augD_add, augD_sub, f1_all, f1_any, f1_sum, f2_in_list, f2_notin_list, f2_in_tup, f2_notin_tup, f2_eq, f2_ne, f2_in_dict, f2_notin_dict, f2_ix_dict, f3_get, pre2_get, pre3_get, preM_append, preM_pop, preM_extend, preM_set, preM_addI, preM_popK, preM_update, fM_pop, fM_popK])
    intro c _
    simp [-Option.map_eq_some_iff, -List.map_map, -Option.bind_some, -Option.map_some, obind_some, omap_some, ex_fn, ev_cst, ev_glb, ev_rd, ev_p1, ev_p2, ev_p3, ev_chain, ev_and, ev_or, ev_not, ev_ite, ev_tup, ev_lst, ev_call, ev_mut, ev_oex, ev_opk, ev_peek, ev_snil, ev_scons, ev_anil, ev_aex, ev_abw, ev_cnil, ev_ccons, ev_iex, ev_irng, ev_izip, ev_ienum, ex_asg, ex_unp, ex_par, ex_aug, ex_expr, ex_mutS, ex_ret, ex_ifs, ex_pass, ex_nil, ex_cons, ev_ssnil, ev_sscons, st_lc, st_lc2, st_dc, obind_ite, omap_ite, bnd_ite, mp_ite, bnd_some, mp_some, takeAll, aget_val, aget_own, ownS_list, ownS_dD, nodupN, ownsOf, putBack, dat_fz, dat_ow, thaw_fz, thaw_ow, thaw_emp, get_val, get_at, pre2, owOk, P1.fresh, P2.fresh, P3.fresh, Sl.mk, wipeE, unwipe, ownFree_eq, notOw_fz, notOw_emp, notOw_none, notOw_nz, nz_some, nz_none, bindT_nm, bindT_raw, bindT_pair, bindT_t3, bindT_t4, store, storeS, lcL_nil, lcL_cons, lcPut_some, lcPut_none, f2_eq_nil, f2_ne_nil, int_fold, bool_fold, str_fold, dp_int, dp_bool, dp_str, dp_unit, dp_list, dp_tup, dp_pair, dp_t3, f1_neg, f1_abs, f1_int, f2_add, f2_sub, f2_lt, f2_le, f2_gt, f2_ge, f2_mn2, f2_mx2, augD_add, augD_sub, f1_all, f1_any, f1_sum, f2_in_list, f2_notin_list, f2_in_tup, f2_notin_tup, f2_eq, f2_ne, f2_in_dict, f2_notin_dict, f2_ix_dict, f3_get, pre2_get, pre3_get, preM_append, preM_pop, preM_extend, preM_set, preM_addI, preM_popK, preM_update, fM_pop, fM_popK, r_fits_cell, r_is_in]
  have h2 : (ms.map fun c => okC c && inB s c).all id = ms.all fun c => okC c && inB s c := by simp [List.all_map, Function.comp_def]
  unfold marksOk
  cases hm : (ms.all fun c => okC c && inB s c) with
  | true => simp [R_fits_marks, c_fits_marks, -Option.map_eq_some_iff, -List.map_map, -Option.bind_some, -Option.map_some, obind_some, omap_some, ex_fn, ev_cst, ev_glb, ev_rd, ev_p1, ev_p2, ev_p3, ev_chain, ev_and, ev_or, ev_not, ev_ite, ev_tup, ev_lst, ev_call, ev_mut, ev_oex, ev_opk, ev_peek, ev_snil, ev_scons, ev_anil, ev_aex, ev_abw, ev_cnil, ev_ccons, ev_iex, ev_irng, ev_izip, ev_ienum, ex_asg, ex_unp, ex_par, ex_aug, ex_expr, ex_mutS, ex_ret, ex_ifs, ex_pass, ex_nil, ex_cons, ev_ssnil, ev_sscons, st_lc, st_lc2, st_dc, obind_ite, omap_ite, bnd_ite, mp_ite, bnd_some, mp_some, takeAll, aget_val, aget_own, ownS_list, ownS_dD, nodupN, ownsOf, putBack, dat_fz, dat_ow, thaw_fz, thaw_ow, thaw_emp, get_val, get_at, pre2, owOk, P1.fresh, P2.fresh, P3.fresh, Sl.mk, wipeE, unwipe, ownFree_eq, notOw_fz, notOw_emp, notOw_none, notOw_nz, nz_some, nz_none, bindT_nm, bindT_raw, bindT_pair, bindT_t3, bindT_t4, store, storeS, lcL_nil, lcL_cons, lcPut_some, lcPut_none, f2_eq_nil, f2_ne_nil, int_fold, bool_fold, str_fold, dp_int, dp_bool, dp_str, dp_unit, dp_list, dp_tup, dp_pair, dp_t3, f1_neg, f1_abs, f1_int, f2_add, f2_sub, f2_lt, f2_le, f2_gt, f2_ge, f2_mn2, f2_mx2, augD_add, augD_sub, f1_all, f1_any, f1_sum, f2_in_list, f2_notin_list, f2_in_tup, f2_notin_tup, f2_eq, f2_ne, f2_in_dict, f2_notin_dict, f2_ix_dict, f3_get, pre2_get, pre3_get, preM_append, preM_pop, preM_extend, preM_set, preM_addI, preM_popK, preM_update, fM_pop, fM_popK, h1, h2, hm, r_is_rising, h]
  | false => simp [R_fits_marks, c_fits_marks, -Option.map_eq_some_iff, -List.map_map, -Option.bind_some, -Option.map_some, obind_some, omap_some, ex_fn, ev_cst, ev_glb, ev_rd, ev_p1, ev_p2, ev_p3, ev_chain, ev_and, ev_or, ev_not, ev_ite, ev_tup, ev_lst, ev_call, ev_mut, ev_oex, ev_opk, ev_peek, ev_snil, ev_scons, ev_anil, ev_aex, ev_abw, ev_cnil, ev_ccons, ev_iex, ev_irng, ev_izip, ev_ienum, ex_asg, ex_unp, ex_par, ex_aug, ex_expr, ex_mutS, ex_ret, ex_ifs, ex_pass, ex_nil, ex_cons, ev_ssnil, ev_sscons, st_lc, st_lc2, st_dc, obind_ite, omap_ite, bnd_ite, mp_ite, bnd_some, mp_some, takeAll, aget_val, aget_own, ownS_list, ownS_dD, nodupN, ownsOf, putBack, dat_fz, dat_ow, thaw_fz, thaw_ow, thaw_emp, get_val, get_at, pre2, owOk, P1.fresh, P2.fresh, P3.fresh, Sl.mk, wipeE, unwipe, ownFree_eq, notOw_fz, notOw_emp, notOw_none, notOw_nz, nz_some, nz_none, bindT_nm, bindT_raw, bindT_pair, bindT_t3, bindT_t4, store, storeS, lcL_nil, lcL_cons, lcPut_some, lcPut_none, f2_eq_nil, f2_ne_nil, int_fold, bool_fold, str_fold, dp_int, dp_bool, dp_str, dp_unit, dp_list, dp_tup, dp_pair, dp_t3, f1_neg, f1_abs, f1_int, f2_add, f2_sub, f2_lt, f2_le, f2_gt, f2_ge, f2_mn2, f2_mx2, augD_add, augD_sub, f1_all, f1_any, f1_sum, f2_in_list, f2_notin_list, f2_in_tup, f2_notin_tup, f2_eq, f2_ne, f2_in_dict, f2_notin_dict, f2_ix_dict, f3_get, pre2_get, pre3_get, preM_append, preM_pop, preM_extend, preM_set, preM_addI, preM_popK, preM_update, fM_pop, fM_popK, h1, h2, hm]
theorem r_need_marks (n : Nat) (s : Cell) (l : Int) (ms : List Cell) (hs : okS s = true) (hl : 2 ≤ l ∧ l ≤ 6) (h : ms.length ≤ 16777215) (hm : marksOk s ms = true) : R (n + 5) 12 [.fz (Datum.toD s), .fz (Datum.toD l), .fz (Datum.toD (Tup.mk ms))] = some (.fz .none, [.fz (Datum.toD s), .fz (Datum.toD l), .fz (Datum.toD (Tup.mk ms))]) := by
  simp [R_need_marks, c_need_marks, -Option.map_eq_some_iff, -List.map_map, -Option.bind_some, -Option.map_some, obind_some, omap_some, ex_fn, ev_cst, ev_glb, ev_rd, ev_p1, ev_p2, ev_p3, ev_chain, ev_and, ev_or, ev_not, ev_ite, ev_tup, ev_lst, ev_call, ev_mut, ev_oex, ev_opk, ev_peek, ev_snil, ev_scons, ev_anil, ev_aex, ev_abw, ev_cnil, ev_ccons, ev_iex, ev_irng, ev_izip, ev_ienum, ex_asg, ex_unp, ex_par, ex_aug, ex_expr, ex_mutS, ex_ret, ex_ifs, ex_pass, ex_nil, ex_cons, ev_ssnil, ev_sscons, st_lc, st_lc2, st_dc, obind_ite, omap_ite, bnd_ite, mp_ite, bnd_some, mp_some, takeAll, aget_val, aget_own, ownS_list, ownS_dD, nodupN, ownsOf, putBack, dat_fz, dat_ow, thaw_fz, thaw_ow, thaw_emp, get_val, get_at, pre2, owOk, P1.fresh, P2.fresh, P3.fresh, Sl.mk, wipeE, unwipe, ownFree_eq, notOw_fz, notOw_emp, notOw_none, notOw_nz, nz_some, nz_none, bindT_nm, bindT_raw, bindT_pair, bindT_t3, bindT_t4, store, storeS, lcL_nil, lcL_cons, lcPut_some, lcPut_none, f2_eq_nil, f2_ne_nil, int_fold, bool_fold, str_fold, dp_int, dp_bool, dp_str, dp_unit, dp_list, dp_tup, dp_pair, dp_t3, f1_neg, f1_abs, f1_int, f2_add, f2_sub, f2_lt, f2_le, f2_gt, f2_ge, f2_mn2, f2_mx2, augD_add, augD_sub, f1_all, f1_any, f1_sum, f2_in_list, f2_notin_list, f2_in_tup, f2_notin_tup, f2_eq, f2_ne, f2_in_dict, f2_notin_dict, f2_ix_dict, f3_get, pre2_get, pre3_get, preM_append, preM_pop, preM_extend, preM_set, preM_addI, preM_popK, preM_update, fM_pop, fM_popK, r_need_box, hs, hl, r_fits_marks, h, hm]
def hitsIn (rows : List (Tup Cell)) (cs : List Cell) : List (Tup Cell) := rows.filter fun r => !(r.items.any fun c => decide (c ∈ cs))
theorem r_hits_in (n : Nat) (rows : List (Tup Cell)) (d : D) (cs : List Cell) (hd : d = Datum.toD cs ∨ d = Datum.toD (Tup.mk cs)) (h : rows.length ≤ SL) (hr : ∀ r ∈ rows, r.items.length ≤ SL) : R (n + 1) 14 [.fz (Datum.toD rows), .fz d] = some (.ow (Datum.toD (hitsIn rows cs)), [.fz (Datum.toD rows), .fz d]) := by
  have hin : ∀ c : Cell, f2 .isin (Datum.toD c) d = some (Datum.toD (decide (c ∈ cs))) := by
    intro c
    rcases hd with rfl | rfl
    · exact f2_in_list c cs (by decide)
    · exact f2_in_tup c cs (by decide)
  have h1 : evalE cons (R n) e_hits_in_1 [.fz (Datum.toD rows), .fz d, .emp, .emp] = some (.ow (Datum.toD (hitsIn rows cs)), [.fz (Datum.toD rows), .fz d, .emp, .emp]) := by
    refine (lc_S (p := fun r => !(r.items.any fun c => decide (c ∈ cs))) (xs := rows) (by simp [-Option.map_eq_some_iff, -List.map_map, -Option.bind_some, -Option.map_some, obind_some, omap_some, ex_fn, ev_cst, ev_glb, ev_rd, ev_p1, ev_p2, ev_p3, ev_chain, ev_and, ev_or, ev_not, ev_ite, ev_tup, ev_lst, ev_call, ev_mut, ev_oex, ev_opk, ev_peek, ev_snil, ev_scons, ev_anil, ev_aex, ev_abw, ev_cnil, ev_ccons, ev_iex, ev_irng, ev_izip, ev_ienum, ex_asg, ex_unp, ex_par, ex_aug, ex_expr, ex_mutS, ex_ret, ex_ifs, ex_pass, ex_nil, ex_cons, ev_ssnil, ev_sscons, st_lc, st_lc2, st_dc, obind_ite, omap_ite, bnd_ite, mp_ite, bnd_some, mp_some, takeAll, aget_val, aget_own, ownS_list, ownS_dD, nodupN, ownsOf, putBack, dat_fz, dat_ow, thaw_fz, thaw_ow, thaw_emp, get_val, get_at, pre2, owOk, P1.fresh, P2.fresh, P3.fresh, Sl.mk, wipeE, unwipe, ownFree_eq, notOw_fz, notOw_emp, notOw_none, notOw_nz, nz_some, nz_none, bindT_nm, bindT_raw, bindT_pair, bindT_t3, bindT_t4, store, storeS, lcL_nil, lcL_cons, lcPut_some, lcPut_none, f2_eq_nil, f2_ne_nil, int_fold, bool_fold, str_fold, dp_int, dp_bool, dp_str, dp_unit, dp_list, dp_tup, dp_pair, dp_t3, f1_neg, f1_abs, f1_int, f2_add, f2_sub, f2_lt, f2_le, f2_gt, f2_ge, f2_mn2, f2_mx2, augD_add, augD_sub, f1_all, f1_any, f1_sum, f2_in_list, f2_notin_list, f2_in_tup, f2_notin_tup, f2_eq, f2_ne, f2_in_dict, f2_notin_dict, f2_ix_dict, f3_get, pre2_get, pre3_get, preM_append, preM_pop, preM_extend, preM_set, preM_addI, preM_popK, preM_update, fM_pop, fM_popK] <;> rfl) rfl h ?_).trans (by simp [-Option.map_eq_some_iff, -List.map_map, -Option.bind_some, -Option.map_some, obind_some, omap_some, ex_fn, ev_cst, ev_glb, ev_rd, ev_p1, ev_p2, ev_p3, ev_chain, ev_and, ev_or, ev_not, ev_ite, ev_tup, ev_lst, ev_call, ev_mut, ev_oex, ev_opk, ev_peek, ev_snil, ev_scons, ev_anil, ev_aex, ev_abw, ev_cnil, ev_ccons, ev_iex, ev_irng, ev_izip, ev_ienum, ex_asg, ex_unp, ex_par, ex_aug, ex_expr, ex_mutS, ex_ret, ex_ifs, ex_pass, ex_nil, ex_cons, ev_ssnil, ev_sscons, st_lc, st_lc2, st_dc, obind_ite, omap_ite, bnd_ite, mp_ite, bnd_some, mp_some, takeAll, aget_val, aget_own, ownS_list, ownS_dD, nodupN, ownsOf, putBack, dat_fz, dat_ow, thaw_fz, thaw_ow, thaw_emp, get_val, get_at, pre2, owOk, P1.fresh, P2.fresh, P3.fresh, Sl.mk, wipeE, unwipe, ownFree_eq, notOw_fz, notOw_emp, notOw_none, notOw_nz, nz_some, nz_none, bindT_nm, bindT_raw, bindT_pair, bindT_t3, bindT_t4, store, storeS, lcL_nil, lcL_cons, lcPut_some, lcPut_none, f2_eq_nil, f2_ne_nil, int_fold, bool_fold, str_fold, dp_int, dp_bool, dp_str, dp_unit, dp_list, dp_tup, dp_pair, dp_t3, f1_neg, f1_abs, f1_int, f2_add, f2_sub, f2_lt, f2_le, f2_gt, f2_ge, f2_mn2, f2_mx2, augD_add, augD_sub, f1_all, f1_any, f1_sum, f2_in_list, f2_notin_list, f2_in_tup, f2_notin_tup, f2_eq, f2_ne, f2_in_dict, f2_notin_dict, f2_ix_dict, f3_get, pre2_get, pre3_get, preM_append, preM_pop, preM_extend, preM_set, preM_addI, preM_popK, preM_update, fM_pop, fM_popK, hitsIn])
    rintro ⟨r⟩ hm
    have h2 : evalE cons (R n) e_hits_in_2 [.fz (Datum.toD rows), .fz d, .fz (Datum.toD (Tup.mk r)), .emp] = some (.ow (Datum.toD (r.map fun c => decide (c ∈ cs))), [.fz (Datum.toD rows), .fz d, .fz (Datum.toD (Tup.mk r)), .emp]) := by
      refine (lc_M (g := fun c => decide (c ∈ cs)) (xs := r) (by simp [-Option.map_eq_some_iff, -List.map_map, -Option.bind_some, -Option.map_some, obind_some, omap_some, ex_fn, ev_cst, ev_glb, ev_rd, ev_p1, ev_p2, ev_p3, ev_chain, ev_and, ev_or, ev_not, ev_ite, ev_tup, ev_lst, ev_call, ev_mut, ev_oex, ev_opk, ev_peek, ev_snil, ev_scons, ev_anil, ev_aex, ev_abw, ev_cnil, ev_ccons, ev_iex, ev_irng, ev_izip, ev_ienum, ex_asg, ex_unp, ex_par, ex_aug, ex_expr, ex_mutS, ex_ret, ex_ifs, ex_pass, ex_nil, ex_cons, ev_ssnil, ev_sscons, st_lc, st_lc2, st_dc, obind_ite, omap_ite, bnd_ite, mp_ite, bnd_some, mp_some, takeAll, aget_val, aget_own, ownS_list, ownS_dD, nodupN, ownsOf, putBack, dat_fz, dat_ow, thaw_fz, thaw_ow, thaw_emp, get_val, get_at, pre2, owOk, P1.fresh, P2.fresh, P3.fresh, Sl.mk, wipeE, unwipe, ownFree_eq, notOw_fz, notOw_emp, notOw_none, notOw_nz, nz_some, nz_none, bindT_nm, bindT_raw, bindT_pair, bindT_t3, bindT_t4, store, storeS, lcL_nil, lcL_cons, lcPut_some, lcPut_none, f2_eq_nil, f2_ne_nil, int_fold, bool_fold, str_fold, dp_int, dp_bool, dp_str, dp_unit, dp_list, dp_tup, dp_pair, dp_t3, f1_neg, f1_abs, f1_int, f2_add, f2_sub, f2_lt, f2_le, f2_gt, f2_ge, f2_mn2, f2_mx2, augD_add, augD_sub, f1_all, f1_any, f1_sum, f2_in_list, f2_notin_list, f2_in_tup, f2_notin_tup, f2_eq, f2_ne, f2_in_dict, f2_notin_dict, f2_ix_dict, f3_get, pre2_get, pre3_get, preM_append, preM_pop, preM_extend, preM_set, preM_addI, preM_popK, preM_update, fM_pop, fM_popK] <;> rfl) rfl (hr _ hm) ?_).trans (by simp [-Option.map_eq_some_iff, -List.map_map, -Option.bind_some, -Option.map_some, obind_some, omap_some, ex_fn, ev_cst, ev_glb, ev_rd, ev_p1, ev_p2, ev_p3, ev_chain, ev_and, ev_or, ev_not, ev_ite, ev_tup, ev_lst, ev_call, ev_mut, ev_oex, ev_opk, ev_peek, ev_snil, ev_scons, ev_anil, ev_aex, ev_abw, ev_cnil, ev_ccons, ev_iex, ev_irng, ev_izip, ev_ienum, ex_asg, ex_unp, ex_par, ex_aug, ex_expr, ex_mutS, ex_ret, ex_ifs, ex_pass, ex_nil, ex_cons, ev_ssnil, ev_sscons, st_lc, st_lc2, st_dc, obind_ite, omap_ite, bnd_ite, mp_ite, bnd_some, mp_some, takeAll, aget_val, aget_own, ownS_list, ownS_dD, nodupN, ownsOf, putBack, dat_fz, dat_ow, thaw_fz, thaw_ow, thaw_emp, get_val, get_at, pre2, owOk, P1.fresh, P2.fresh, P3.fresh, Sl.mk, wipeE, unwipe, ownFree_eq, notOw_fz, notOw_emp, notOw_none, notOw_nz, nz_some, nz_none, bindT_nm, bindT_raw, bindT_pair, bindT_t3, bindT_t4, store, storeS, lcL_nil, lcL_cons, lcPut_some, lcPut_none, f2_eq_nil, f2_ne_nil, int_fold, bool_fold, str_fold, dp_int, dp_bool, dp_str, dp_unit, dp_list, dp_tup, dp_pair, dp_t3, f1_neg, f1_abs, f1_int, f2_add, f2_sub, f2_lt, f2_le, f2_gt, f2_ge, f2_mn2, f2_mx2, augD_add, augD_sub, f1_all, f1_any, f1_sum, f2_in_list, f2_notin_list, f2_in_tup, f2_notin_tup, f2_eq, f2_ne, f2_in_dict, f2_notin_dict, f2_ix_dict, f3_get, pre2_get, pre3_get, preM_append, preM_pop, preM_extend, preM_set, preM_addI, preM_popK, preM_update, fM_pop, fM_popK])
      intro c _
      simp [-Option.map_eq_some_iff, -List.map_map, -Option.bind_some, -Option.map_some, obind_some, omap_some, ex_fn, ev_cst, ev_glb, ev_rd, ev_p1, ev_p2, ev_p3, ev_chain, ev_and, ev_or, ev_not, ev_ite, ev_tup, ev_lst, ev_call, ev_mut, ev_oex, ev_opk, ev_peek, ev_snil, ev_scons, ev_anil, ev_aex, ev_abw, ev_cnil, ev_ccons, ev_iex, ev_irng, ev_izip, ev_ienum, ex_asg, ex_unp, ex_par, ex_aug, ex_expr, ex_mutS, ex_ret, ex_ifs, ex_pass, ex_nil, ex_cons, ev_ssnil, ev_sscons, st_lc, st_lc2, st_dc, obind_ite, omap_ite, bnd_ite, mp_ite, bnd_some, mp_some, takeAll, aget_val, aget_own, ownS_list, ownS_dD, nodupN, ownsOf, putBack, dat_fz, dat_ow, thaw_fz, thaw_ow, thaw_emp, get_val, get_at, pre2, owOk, P1.fresh, P2.fresh, P3.fresh, Sl.mk, wipeE, unwipe, ownFree_eq, notOw_fz, notOw_emp, notOw_none, notOw_nz, nz_some, nz_none, bindT_nm, bindT_raw, bindT_pair, bindT_t3, bindT_t4, store, storeS, lcL_nil, lcL_cons, lcPut_some, lcPut_none, f2_eq_nil, f2_ne_nil, int_fold, bool_fold, str_fold, dp_int, dp_bool, dp_str, dp_unit, dp_list, dp_tup, dp_pair, dp_t3, f1_neg, f1_abs, f1_int, f2_add, f2_sub, f2_lt, f2_le, f2_gt, f2_ge, f2_mn2, f2_mx2, augD_add, augD_sub, f1_all, f1_any, f1_sum, f2_in_list, f2_notin_list, f2_in_tup, f2_notin_tup, f2_eq, f2_ne, f2_in_dict, f2_notin_dict, f2_ix_dict, f3_get, pre2_get, pre3_get, preM_append, preM_pop, preM_extend, preM_set, preM_addI, preM_popK, preM_update, fM_pop, fM_popK, hin]
    have h3 : (r.map fun c => decide (c ∈ cs)).any id = r.any fun c => decide (c ∈ cs) := by simp [List.any_map, Function.comp_def]
    cases hA : (r.any fun c => decide (c ∈ cs)) with
    | true => rw [hA] at h3; simp [-Option.map_eq_some_iff, -List.map_map, -Option.bind_some, -Option.map_some, obind_some, omap_some, ex_fn, ev_cst, ev_glb, ev_rd, ev_p1, ev_p2, ev_p3, ev_chain, ev_and, ev_or, ev_not, ev_ite, ev_tup, ev_lst, ev_call, ev_mut, ev_oex, ev_opk, ev_peek, ev_snil, ev_scons, ev_anil, ev_aex, ev_abw, ev_cnil, ev_ccons, ev_iex, ev_irng, ev_izip, ev_ienum, ex_asg, ex_unp, ex_par, ex_aug, ex_expr, ex_mutS, ex_ret, ex_ifs, ex_pass, ex_nil, ex_cons, ev_ssnil, ev_sscons, st_lc, st_lc2, st_dc, obind_ite, omap_ite, bnd_ite, mp_ite, bnd_some, mp_some, takeAll, aget_val, aget_own, ownS_list, ownS_dD, nodupN, ownsOf, putBack, dat_fz, dat_ow, thaw_fz, thaw_ow, thaw_emp, get_val, get_at, pre2, owOk, P1.fresh, P2.fresh, P3.fresh, Sl.mk, wipeE, unwipe, ownFree_eq, notOw_fz, notOw_emp, notOw_none, notOw_nz, nz_some, nz_none, bindT_nm, bindT_raw, bindT_pair, bindT_t3, bindT_t4, store, storeS, lcL_nil, lcL_cons, lcPut_some, lcPut_none, f2_eq_nil, f2_ne_nil, int_fold, bool_fold, str_fold, dp_int, dp_bool, dp_str, dp_unit, dp_list, dp_tup, dp_pair, dp_t3, f1_neg, f1_abs, f1_int, f2_add, f2_sub, f2_lt, f2_le, f2_gt, f2_ge, f2_mn2, f2_mx2, augD_add, augD_sub, f1_all, f1_any, f1_sum, f2_in_list, f2_notin_list, f2_in_tup, f2_notin_tup, f2_eq, f2_ne, f2_in_dict, f2_notin_dict, f2_ix_dict, f3_get, pre2_get, pre3_get, preM_append, preM_pop, preM_extend, preM_set, preM_addI, preM_popK, preM_update, fM_pop, fM_popK, h2, h3, hA]
    | false => rw [hA] at h3; simp [-Option.map_eq_some_iff, -List.map_map, -Option.bind_some, -Option.map_some, obind_some, omap_some, ex_fn, ev_cst, ev_glb, ev_rd, ev_p1, ev_p2, ev_p3, ev_chain, ev_and, ev_or, ev_not, ev_ite, ev_tup, ev_lst, ev_call, ev_mut, ev_oex, ev_opk, ev_peek, ev_snil, ev_scons, ev_anil, ev_aex, ev_abw, ev_cnil, ev_ccons, ev_iex, ev_irng, ev_izip, ev_ienum, ex_asg, ex_unp, ex_par, ex_aug, ex_expr, ex_mutS, ex_ret, ex_ifs, ex_pass, ex_nil, ex_cons, ev_ssnil, ev_sscons, st_lc, st_lc2, st_dc, obind_ite, omap_ite, bnd_ite, mp_ite, bnd_some, mp_some, takeAll, aget_val, aget_own, ownS_list, ownS_dD, nodupN, ownsOf, putBack, dat_fz, dat_ow, thaw_fz, thaw_ow, thaw_emp, get_val, get_at, pre2, owOk, P1.fresh, P2.fresh, P3.fresh, Sl.mk, wipeE, unwipe, ownFree_eq, notOw_fz, notOw_emp, notOw_none, notOw_nz, nz_some, nz_none, bindT_nm, bindT_raw, bindT_pair, bindT_t3, bindT_t4, store, storeS, lcL_nil, lcL_cons, lcPut_some, lcPut_none, f2_eq_nil, f2_ne_nil, int_fold, bool_fold, str_fold, dp_int, dp_bool, dp_str, dp_unit, dp_list, dp_tup, dp_pair, dp_t3, f1_neg, f1_abs, f1_int, f2_add, f2_sub, f2_lt, f2_le, f2_gt, f2_ge, f2_mn2, f2_mx2, augD_add, augD_sub, f1_all, f1_any, f1_sum, f2_in_list, f2_notin_list, f2_in_tup, f2_notin_tup, f2_eq, f2_ne, f2_in_dict, f2_notin_dict, f2_ix_dict, f3_get, pre2_get, pre3_get, preM_append, preM_pop, preM_extend, preM_set, preM_addI, preM_popK, preM_update, fM_pop, fM_popK, h2, h3, hA]
  simp [R_hits_in, c_hits_in, -Option.map_eq_some_iff, -List.map_map, -Option.bind_some, -Option.map_some, obind_some, omap_some, ex_fn, ev_cst, ev_glb, ev_rd, ev_p1, ev_p2, ev_p3, ev_chain, ev_and, ev_or, ev_not, ev_ite, ev_tup, ev_lst, ev_call, ev_mut, ev_oex, ev_opk, ev_peek, ev_snil, ev_scons, ev_anil, ev_aex, ev_abw, ev_cnil, ev_ccons, ev_iex, ev_irng, ev_izip, ev_ienum, ex_asg, ex_unp, ex_par, ex_aug, ex_expr, ex_mutS, ex_ret, ex_ifs, ex_pass, ex_nil, ex_cons, ev_ssnil, ev_sscons, st_lc, st_lc2, st_dc, obind_ite, omap_ite, bnd_ite, mp_ite, bnd_some, mp_some, takeAll, aget_val, aget_own, ownS_list, ownS_dD, nodupN, ownsOf, putBack, dat_fz, dat_ow, thaw_fz, thaw_ow, thaw_emp, get_val, get_at, pre2, owOk, P1.fresh, P2.fresh, P3.fresh, Sl.mk, wipeE, unwipe, ownFree_eq, notOw_fz, notOw_emp, notOw_none, notOw_nz, nz_some, nz_none, bindT_nm, bindT_raw, bindT_pair, bindT_t3, bindT_t4, store, storeS, lcL_nil, lcL_cons, lcPut_some, lcPut_none, f2_eq_nil, f2_ne_nil, int_fold, bool_fold, str_fold, dp_int, dp_bool, dp_str, dp_unit, dp_list, dp_tup, dp_pair, dp_t3, f1_neg, f1_abs, f1_int, f2_add, f2_sub, f2_lt, f2_le, f2_gt, f2_ge, f2_mn2, f2_mx2, augD_add, augD_sub, f1_all, f1_any, f1_sum, f2_in_list, f2_notin_list, f2_in_tup, f2_notin_tup, f2_eq, f2_ne, f2_in_dict, f2_notin_dict, f2_ix_dict, f3_get, pre2_get, pre3_get, preM_append, preM_pop, preM_extend, preM_set, preM_addI, preM_popK, preM_update, fM_pop, fM_popK, h1]
theorem rows_len_SL {s : Cell} {l : Int} (h : okS s = true) : (rowsIn s l).length ≤ SL := by unfold rowsIn; rw [length_sortT]; exact Nat.le_trans (rows0_len s l h) (by decide)
theorem row_len_SL {s : Cell} {l : Int} (hl : l ≤ 6) : ∀ r ∈ rowsIn s l, r.items.length ≤ SL := fun r hr => by rw [(rows_nodup hr).2]; unfold SL; omega
def fullIn (s : Cell) (l : Int) (ms : List Cell) : List (Tup Cell) := (rowsIn s l).filter fun r => r.items.all fun c => decide (c ∈ ms)
theorem r_full_rows (n : Nat) (s : Cell) (l : Int) (ms : List Cell) (hs : okS s = true) (hl : 2 ≤ l ∧ l ≤ 6) (h : ms.length ≤ 16777215) (hm : marksOk s ms = true) : R (n + 6) 17 [.fz (Datum.toD s), .fz (Datum.toD l), .fz (Datum.toD (Tup.mk ms))] = some (.fz (Datum.toD (Tup.mk (fullIn s l ms))), [.fz (Datum.toD s), .fz (Datum.toD l), .fz (Datum.toD (Tup.mk ms))]) := by
  have h1 : evalE cons (R (n + 5)) e_full_rows_1 [.fz (Datum.toD s), .fz (Datum.toD l), .fz (Datum.toD (Tup.mk ms)), .emp, .emp] = some (.ow (Datum.toD (fullIn s l ms)), [.fz (Datum.toD s), .fz (Datum.toD l), .fz (Datum.toD (Tup.mk ms)), .emp, .emp]) := by
    refine (lc_S (p := fun r => r.items.all fun c => decide (c ∈ ms)) (xs := rowsIn s l) (by simp [-Option.map_eq_some_iff, -List.map_map, -Option.bind_some, -Option.map_some, obind_some, omap_some, ex_fn, ev_cst, ev_glb, ev_rd, ev_p1, ev_p2, ev_p3, ev_chain, ev_and, ev_or, ev_not, ev_ite, ev_tup, ev_lst, ev_call, ev_mut, ev_oex, ev_opk, ev_peek, ev_snil, ev_scons, ev_anil, ev_aex, ev_abw, ev_cnil, ev_ccons, ev_iex, ev_irng, ev_izip, ev_ienum, ex_asg, ex_unp, ex_par, ex_aug, ex_expr, ex_mutS, ex_ret, ex_ifs, ex_pass, ex_nil, ex_cons, ev_ssnil, ev_sscons, st_lc, st_lc2, st_dc, obind_ite, omap_ite, bnd_ite, mp_ite, bnd_some, mp_some, takeAll, aget_val, aget_own, ownS_list, ownS_dD, nodupN, ownsOf, putBack, dat_fz, dat_ow, thaw_fz, thaw_ow, thaw_emp, get_val, get_at, pre2, owOk, P1.fresh, P2.fresh, P3.fresh, Sl.mk, wipeE, unwipe, ownFree_eq, notOw_fz, notOw_emp, notOw_none, notOw_nz, nz_some, nz_none, bindT_nm, bindT_raw, bindT_pair, bindT_t3, bindT_t4, store, storeS, lcL_nil, lcL_cons, lcPut_some, lcPut_none, f2_eq_nil, f2_ne_nil, int_fold, bool_fold, str_fold, dp_int, dp_bool, dp_str, dp_unit, dp_list, dp_tup, dp_pair, dp_t3, f1_neg, f1_abs, f1_int, f2_add, f2_sub, f2_lt, f2_le, f2_gt, f2_ge, f2_mn2, f2_mx2, augD_add, augD_sub, f1_all, f1_any, f1_sum, f2_in_list, f2_notin_list, f2_in_tup, f2_notin_tup, f2_eq, f2_ne, f2_in_dict, f2_notin_dict, f2_ix_dict, f3_get, pre2_get, pre3_get, preM_append, preM_pop, preM_extend, preM_set, preM_addI, preM_popK, preM_update, fM_pop, fM_popK, r_rows_in, hs, hl] <;> rfl) rfl (rows_len_SL hs) ?_).trans (by simp [-Option.map_eq_some_iff, -List.map_map, -Option.bind_some, -Option.map_some, obind_some, omap_some, ex_fn, ev_cst, ev_glb, ev_rd, ev_p1, ev_p2, ev_p3, ev_chain, ev_and, ev_or, ev_not, ev_ite, ev_tup, ev_lst, ev_call, ev_mut, ev_oex, ev_opk, ev_peek, ev_snil, ev_scons, ev_anil, ev_aex, ev_abw, ev_cnil, ev_ccons, ev_iex, ev_irng, ev_izip, ev_ienum, ex_asg, ex_unp, ex_par, ex_aug, ex_expr, ex_mutS, ex_ret, ex_ifs, ex_pass, ex_nil, ex_cons, ev_ssnil, ev_sscons, st_lc, st_lc2, st_dc, obind_ite, omap_ite, bnd_ite, mp_ite, bnd_some, mp_some, takeAll, aget_val, aget_own, ownS_list, ownS_dD, nodupN, ownsOf, putBack, dat_fz, dat_ow, thaw_fz, thaw_ow, thaw_emp, get_val, get_at, pre2, owOk, P1.fresh, P2.fresh, P3.fresh, Sl.mk, wipeE, unwipe, ownFree_eq, notOw_fz, notOw_emp, notOw_none, notOw_nz, nz_some, nz_none, bindT_nm, bindT_raw, bindT_pair, bindT_t3, bindT_t4, store, storeS, lcL_nil, lcL_cons, lcPut_some, lcPut_none, f2_eq_nil, f2_ne_nil, int_fold, bool_fold, str_fold, dp_int, dp_bool, dp_str, dp_unit, dp_list, dp_tup, dp_pair, dp_t3, f1_neg, f1_abs, f1_int, f2_add, f2_sub, f2_lt, f2_le, f2_gt, f2_ge, f2_mn2, f2_mx2, augD_add, augD_sub, f1_all, f1_any, f1_sum, f2_in_list, f2_notin_list, f2_in_tup, f2_notin_tup, f2_eq, f2_ne, f2_in_dict, f2_notin_dict, f2_ix_dict, f3_get, pre2_get, pre3_get, preM_append, preM_pop, preM_extend, preM_set, preM_addI, preM_popK, preM_update, fM_pop, fM_popK, fullIn])
    rintro ⟨r⟩ hr
    have h2 : evalE cons (R (n + 5)) e_full_rows_2 [.fz (Datum.toD s), .fz (Datum.toD l), .fz (Datum.toD (Tup.mk ms)), .fz (Datum.toD (Tup.mk r)), .emp] = some (.ow (Datum.toD (r.map fun c => decide (c ∈ ms))), [.fz (Datum.toD s), .fz (Datum.toD l), .fz (Datum.toD (Tup.mk ms)), .fz (Datum.toD (Tup.mk r)), .emp]) := by
      refine (lc_M (g := fun c => decide (c ∈ ms)) (xs := r) (by simp [-Option.map_eq_some_iff, -List.map_map, -Option.bind_some, -Option.map_some, obind_some, omap_some, ex_fn, ev_cst, ev_glb, ev_rd, ev_p1, ev_p2, ev_p3, ev_chain, ev_and, ev_or, ev_not, ev_ite, ev_tup, ev_lst, ev_call, ev_mut, ev_oex, ev_opk, ev_peek, ev_snil, ev_scons, ev_anil, ev_aex, ev_abw, ev_cnil, ev_ccons, ev_iex, ev_irng, ev_izip, ev_ienum, ex_asg, ex_unp, ex_par, ex_aug, ex_expr, ex_mutS, ex_ret, ex_ifs, ex_pass, ex_nil, ex_cons, ev_ssnil, ev_sscons, st_lc, st_lc2, st_dc, obind_ite, omap_ite, bnd_ite, mp_ite, bnd_some, mp_some, takeAll, aget_val, aget_own, ownS_list, ownS_dD, nodupN, ownsOf, putBack, dat_fz, dat_ow, thaw_fz, thaw_ow, thaw_emp, get_val, get_at, pre2, owOk, P1.fresh, P2.fresh, P3.fresh, Sl.mk, wipeE, unwipe, ownFree_eq, notOw_fz, notOw_emp, notOw_none, notOw_nz, nz_some, nz_none, bindT_nm, bindT_raw, bindT_pair, bindT_t3, bindT_t4, store, storeS, lcL_nil, lcL_cons, lcPut_some, lcPut_none, f2_eq_nil, f2_ne_nil, int_fold, bool_fold, str_fold, dp_int, dp_bool, dp_str, dp_unit, dp_list, dp_tup, dp_pair, dp_t3, f1_neg, f1_abs, f1_int, f2_add, f2_sub, f2_lt, f2_le, f2_gt, f2_ge, f2_mn2, f2_mx2, augD_add, augD_sub, f1_all, f1_any, f1_sum, f2_in_list, f2_notin_list, f2_in_tup, f2_notin_tup, f2_eq, f2_ne, f2_in_dict, f2_notin_dict, f2_ix_dict, f3_get, pre2_get, pre3_get, preM_append, preM_pop, preM_extend, preM_set, preM_addI, preM_popK, preM_update, fM_pop, fM_popK] <;> rfl) rfl (row_len_SL hl.2 _ hr) ?_).trans (by simp [-Option.map_eq_some_iff, -List.map_map, -Option.bind_some, -Option.map_some, obind_some, omap_some, ex_fn, ev_cst, ev_glb, ev_rd, ev_p1, ev_p2, ev_p3, ev_chain, ev_and, ev_or, ev_not, ev_ite, ev_tup, ev_lst, ev_call, ev_mut, ev_oex, ev_opk, ev_peek, ev_snil, ev_scons, ev_anil, ev_aex, ev_abw, ev_cnil, ev_ccons, ev_iex, ev_irng, ev_izip, ev_ienum, ex_asg, ex_unp, ex_par, ex_aug, ex_expr, ex_mutS, ex_ret, ex_ifs, ex_pass, ex_nil, ex_cons, ev_ssnil, ev_sscons, st_lc, st_lc2, st_dc, obind_ite, omap_ite, bnd_ite, mp_ite, bnd_some, mp_some, takeAll, aget_val, aget_own, ownS_list, ownS_dD, nodupN, ownsOf, putBack, dat_fz, dat_ow, thaw_fz, thaw_ow, thaw_emp, get_val, get_at, pre2, owOk, P1.fresh, P2.fresh, P3.fresh, Sl.mk, wipeE, unwipe, ownFree_eq, notOw_fz, notOw_emp, notOw_none, notOw_nz, nz_some, nz_none, bindT_nm, bindT_raw, bindT_pair, bindT_t3, bindT_t4, store, storeS, lcL_nil, lcL_cons, lcPut_some, lcPut_none, f2_eq_nil, f2_ne_nil, int_fold, bool_fold, str_fold, dp_int, dp_bool, dp_str, dp_unit, dp_list, dp_tup, dp_pair, dp_t3, f1_neg, f1_abs, f1_int, f2_add, f2_sub, f2_lt, f2_le, f2_gt, f2_ge, f2_mn2, f2_mx2, augD_add, augD_sub, f1_all, f1_any, f1_sum, f2_in_list, f2_notin_list, f2_in_tup, f2_notin_tup, f2_eq, f2_ne, f2_in_dict, f2_notin_dict, f2_ix_dict, f3_get, pre2_get, pre3_get, preM_append, preM_pop, preM_extend, preM_set, preM_addI, preM_popK, preM_update, fM_pop, fM_popK])
      intro c _
      simp [-Option.map_eq_some_iff, -List.map_map, -Option.bind_some, -Option.map_some, obind_some, omap_some, ex_fn, ev_cst, ev_glb, ev_rd, ev_p1, ev_p2, ev_p3, ev_chain, ev_and, ev_or, ev_not, ev_ite, ev_tup, ev_lst, ev_call, ev_mut, ev_oex, ev_opk, ev_peek, ev_snil, ev_scons, ev_anil, ev_aex, ev_abw, ev_cnil, ev_ccons, ev_iex, ev_irng, ev_izip, ev_ienum, ex_asg, ex_unp, ex_par, ex_aug, ex_expr, ex_mutS, ex_ret, ex_ifs, ex_pass, ex_nil, ex_cons, ev_ssnil, ev_sscons, st_lc, st_lc2, st_dc, obind_ite, omap_ite, bnd_ite, mp_ite, bnd_some, mp_some, takeAll, aget_val, aget_own, ownS_list, ownS_dD, nodupN, ownsOf, putBack, dat_fz, dat_ow, thaw_fz, thaw_ow, thaw_emp, get_val, get_at, pre2, owOk, P1.fresh, P2.fresh, P3.fresh, Sl.mk, wipeE, unwipe, ownFree_eq, notOw_fz, notOw_emp, notOw_none, notOw_nz, nz_some, nz_none, bindT_nm, bindT_raw, bindT_pair, bindT_t3, bindT_t4, store, storeS, lcL_nil, lcL_cons, lcPut_some, lcPut_none, f2_eq_nil, f2_ne_nil, int_fold, bool_fold, str_fold, dp_int, dp_bool, dp_str, dp_unit, dp_list, dp_tup, dp_pair, dp_t3, f1_neg, f1_abs, f1_int, f2_add, f2_sub, f2_lt, f2_le, f2_gt, f2_ge, f2_mn2, f2_mx2, augD_add, augD_sub, f1_all, f1_any, f1_sum, f2_in_list, f2_notin_list, f2_in_tup, f2_notin_tup, f2_eq, f2_ne, f2_in_dict, f2_notin_dict, f2_ix_dict, f3_get, pre2_get, pre3_get, preM_append, preM_pop, preM_extend, preM_set, preM_addI, preM_popK, preM_update, fM_pop, fM_popK]
    have h3 : (r.map fun c => decide (c ∈ ms)).all id = r.all fun c => decide (c ∈ ms) := by simp [List.all_map, Function.comp_def]
    cases hA : (r.all fun c => decide (c ∈ ms)) with
    | true => rw [hA] at h3; simp [-Option.map_eq_some_iff, -List.map_map, -Option.bind_some, -Option.map_some, obind_some, omap_some, ex_fn, ev_cst, ev_glb, ev_rd, ev_p1, ev_p2, ev_p3, ev_chain, ev_and, ev_or, ev_not, ev_ite, ev_tup, ev_lst, ev_call, ev_mut, ev_oex, ev_opk, ev_peek, ev_snil, ev_scons, ev_anil, ev_aex, ev_abw, ev_cnil, ev_ccons, ev_iex, ev_irng, ev_izip, ev_ienum, ex_asg, ex_unp, ex_par, ex_aug, ex_expr, ex_mutS, ex_ret, ex_ifs, ex_pass, ex_nil, ex_cons, ev_ssnil, ev_sscons, st_lc, st_lc2, st_dc, obind_ite, omap_ite, bnd_ite, mp_ite, bnd_some, mp_some, takeAll, aget_val, aget_own, ownS_list, ownS_dD, nodupN, ownsOf, putBack, dat_fz, dat_ow, thaw_fz, thaw_ow, thaw_emp, get_val, get_at, pre2, owOk, P1.fresh, P2.fresh, P3.fresh, Sl.mk, wipeE, unwipe, ownFree_eq, notOw_fz, notOw_emp, notOw_none, notOw_nz, nz_some, nz_none, bindT_nm, bindT_raw, bindT_pair, bindT_t3, bindT_t4, store, storeS, lcL_nil, lcL_cons, lcPut_some, lcPut_none, f2_eq_nil, f2_ne_nil, int_fold, bool_fold, str_fold, dp_int, dp_bool, dp_str, dp_unit, dp_list, dp_tup, dp_pair, dp_t3, f1_neg, f1_abs, f1_int, f2_add, f2_sub, f2_lt, f2_le, f2_gt, f2_ge, f2_mn2, f2_mx2, augD_add, augD_sub, f1_all, f1_any, f1_sum, f2_in_list, f2_notin_list, f2_in_tup, f2_notin_tup, f2_eq, f2_ne, f2_in_dict, f2_notin_dict, f2_ix_dict, f3_get, pre2_get, pre3_get, preM_append, preM_pop, preM_extend, preM_set, preM_addI, preM_popK, preM_update, fM_pop, fM_popK, h2, h3, hA]
    | false => rw [hA] at h3; simp [-Option.map_eq_some_iff, -List.map_map, -Option.bind_some, -Option.map_some, obind_some, omap_some, ex_fn, ev_cst, ev_glb, ev_rd, ev_p1, ev_p2, ev_p3, ev_chain, ev_and, ev_or, ev_not, ev_ite, ev_tup, ev_lst, ev_call, ev_mut, ev_oex, ev_opk, ev_peek, ev_snil, ev_scons, ev_anil, ev_aex, ev_abw, ev_cnil, ev_ccons, ev_iex, ev_irng, ev_izip, ev_ienum, ex_asg, ex_unp, ex_par, ex_aug, ex_expr, ex_mutS, ex_ret, ex_ifs, ex_pass, ex_nil, ex_cons, ev_ssnil, ev_sscons, st_lc, st_lc2, st_dc, obind_ite, omap_ite, bnd_ite, mp_ite, bnd_some, mp_some, takeAll, aget_val, aget_own, ownS_list, ownS_dD, nodupN, ownsOf, putBack, dat_fz, dat_ow, thaw_fz, thaw_ow, thaw_emp, get_val, get_at, pre2, owOk, P1.fresh, P2.fresh, P3.fresh, Sl.mk, wipeE, unwipe, ownFree_eq, notOw_fz, notOw_emp, notOw_none, notOw_nz, nz_some, nz_none, bindT_nm, bindT_raw, bindT_pair, bindT_t3, bindT_t4, store, storeS, lcL_nil, lcL_cons, lcPut_some, lcPut_none, f2_eq_nil, f2_ne_nil, int_fold, bool_fold, str_fold, dp_int, dp_bool, dp_str, dp_unit, dp_list, dp_tup, dp_pair, dp_t3, f1_neg, f1_abs, f1_int, f2_add, f2_sub, f2_lt, f2_le, f2_gt, f2_ge, f2_mn2, f2_mx2, augD_add, augD_sub, f1_all, f1_any, f1_sum, f2_in_list, f2_notin_list, f2_in_tup, f2_notin_tup, f2_eq, f2_ne, f2_in_dict, f2_notin_dict, f2_ix_dict, f3_get, pre2_get, pre3_get, preM_append, preM_pop, preM_extend, preM_set, preM_addI, preM_popK, preM_update, fM_pop, fM_popK, h2, h3, hA]
  simp [R_full_rows, c_full_rows, -Option.map_eq_some_iff, -List.map_map, -Option.bind_some, -Option.map_some, obind_some, omap_some, ex_fn, ev_cst, ev_glb, ev_rd, ev_p1, ev_p2, ev_p3, ev_chain, ev_and, ev_or, ev_not, ev_ite, ev_tup, ev_lst, ev_call, ev_mut, ev_oex, ev_opk, ev_peek, ev_snil, ev_scons, ev_anil, ev_aex, ev_abw, ev_cnil, ev_ccons, ev_iex, ev_irng, ev_izip, ev_ienum, ex_asg, ex_unp, ex_par, ex_aug, ex_expr, ex_mutS, ex_ret, ex_ifs, ex_pass, ex_nil, ex_cons, ev_ssnil, ev_sscons, st_lc, st_lc2, st_dc, obind_ite, omap_ite, bnd_ite, mp_ite, bnd_some, mp_some, takeAll, aget_val, aget_own, ownS_list, ownS_dD, nodupN, ownsOf, putBack, dat_fz, dat_ow, thaw_fz, thaw_ow, thaw_emp, get_val, get_at, pre2, owOk, P1.fresh, P2.fresh, P3.fresh, Sl.mk, wipeE, unwipe, ownFree_eq, notOw_fz, notOw_emp, notOw_none, notOw_nz, nz_some, nz_none, bindT_nm, bindT_raw, bindT_pair, bindT_t3, bindT_t4, store, storeS, lcL_nil, lcL_cons, lcPut_some, lcPut_none, f2_eq_nil, f2_ne_nil, int_fold, bool_fold, str_fold, dp_int, dp_bool, dp_str, dp_unit, dp_list, dp_tup, dp_pair, dp_t3, f1_neg, f1_abs, f1_int, f2_add, f2_sub, f2_lt, f2_le, f2_gt, f2_ge, f2_mn2, f2_mx2, augD_add, augD_sub, f1_all, f1_any, f1_sum, f2_in_list, f2_notin_list, f2_in_tup, f2_notin_tup, f2_eq, f2_ne, f2_in_dict, f2_notin_dict, f2_ix_dict, f3_get, pre2_get, pre3_get, preM_append, preM_pop, preM_extend, preM_set, preM_addI, preM_popK, preM_update, fM_pop, fM_popK, r_need_marks, hs, hl, h, hm, h1]
theorem r_open_rows (n : Nat) (s : Cell) (l : Int) (ms : List Cell) (hs : okS s = true) (hl : 2 ≤ l ∧ l ≤ 6) (h : ms.length ≤ 16777215) (hm : marksOk s ms = true) : R (n + 6) 18 [.fz (Datum.toD s), .fz (Datum.toD l), .fz (Datum.toD (Tup.mk ms))] = some (.fz (Datum.toD (Tup.mk (hitsIn (rowsIn s l) ms))), [.fz (Datum.toD s), .fz (Datum.toD l), .fz (Datum.toD (Tup.mk ms))]) := by
  have hh := r_hits_in (n + 4) (rowsIn s l) _ ms (.inr rfl) (rows_len_SL hs) (row_len_SL hl.2)
  simp [R_open_rows, c_open_rows, -Option.map_eq_some_iff, -List.map_map, -Option.bind_some, -Option.map_some, obind_some, omap_some, ex_fn, ev_cst, ev_glb, ev_rd, ev_p1, ev_p2, ev_p3, ev_chain, ev_and, ev_or, ev_not, ev_ite, ev_tup, ev_lst, ev_call, ev_mut, ev_oex, ev_opk, ev_peek, ev_snil, ev_scons, ev_anil, ev_aex, ev_abw, ev_cnil, ev_ccons, ev_iex, ev_irng, ev_izip, ev_ienum, ex_asg, ex_unp, ex_par, ex_aug, ex_expr, ex_mutS, ex_ret, ex_ifs, ex_pass, ex_nil, ex_cons, ev_ssnil, ev_sscons, st_lc, st_lc2, st_dc, obind_ite, omap_ite, bnd_ite, mp_ite, bnd_some, mp_some, takeAll, aget_val, aget_own, ownS_list, ownS_dD, nodupN, ownsOf, putBack, dat_fz, dat_ow, thaw_fz, thaw_ow, thaw_emp, get_val, get_at, pre2, owOk, P1.fresh, P2.fresh, P3.fresh, Sl.mk, wipeE, unwipe, ownFree_eq, notOw_fz, notOw_emp, notOw_none, notOw_nz, nz_some, nz_none, bindT_nm, bindT_raw, bindT_pair, bindT_t3, bindT_t4, store, storeS, lcL_nil, lcL_cons, lcPut_some, lcPut_none, f2_eq_nil, f2_ne_nil, int_fold, bool_fold, str_fold, dp_int, dp_bool, dp_str, dp_unit, dp_list, dp_tup, dp_pair, dp_t3, f1_neg, f1_abs, f1_int, f2_add, f2_sub, f2_lt, f2_le, f2_gt, f2_ge, f2_mn2, f2_mx2, augD_add, augD_sub, f1_all, f1_any, f1_sum, f2_in_list, f2_notin_list, f2_in_tup, f2_notin_tup, f2_eq, f2_ne, f2_in_dict, f2_notin_dict, f2_ix_dict, f3_get, pre2_get, pre3_get, preM_append, preM_pop, preM_extend, preM_set, preM_addI, preM_popK, preM_update, fM_pop, fM_popK, r_need_marks, hs, hl, h, hm, r_rows_in, hh]

end G94
end

section
set_option maxRecDepth 100000
set_option linter.all false
namespace G94
open Ky PySem PySem.W
theorem r_need_few (n : Nat) (s : Cell) (h : okS s = true) (hv : s.a * s.b * s.c ≤ 12) : R (n + 1) 13 [.fz (Datum.toD s)] = some (.fz .none, [.fz (Datum.toD s)]) := by
  have hs := okS_le h
  have h1 := mul_le6 (a := s.a) (b := s.b) (by omega) (by omega)
  have m1 := f2_mul s.a s.b (by rw [Bool.or_eq_true]; exact .inl (small_ok (by omega) (by omega)))
  have m2 := f2_mul (s.a * s.b) s.c (by rw [Bool.or_eq_true]; exact .inl (small_ok (by omega) (by omega)))
  simp [R_need_few, c_need_few, -Option.map_eq_some_iff, -List.map_map, -Option.bind_some, -Option.map_some, obind_some, omap_some, ex_fn, ev_cst, ev_glb, ev_rd, ev_p1, ev_p2, ev_p3, ev_chain, ev_and, ev_or, ev_not, ev_ite, ev_tup, ev_lst, ev_call, ev_mut, ev_oex, ev_opk, ev_peek, ev_snil, ev_scons, ev_anil, ev_aex, ev_abw, ev_cnil, ev_ccons, ev_iex, ev_irng, ev_izip, ev_ienum, ex_asg, ex_unp, ex_par, ex_aug, ex_expr, ex_mutS, ex_ret, ex_ifs, ex_pass, ex_nil, ex_cons, ev_ssnil, ev_sscons, st_lc, st_lc2, st_dc, obind_ite, omap_ite, bnd_ite, mp_ite, bnd_some, mp_some, takeAll, aget_val, aget_own, ownS_list, ownS_dD, nodupN, ownsOf, putBack, dat_fz, dat_ow, thaw_fz, thaw_ow, thaw_emp, get_val, get_at, pre2, owOk, P1.fresh, P2.fresh, P3.fresh, Sl.mk, wipeE, unwipe, ownFree_eq, notOw_fz, notOw_emp, notOw_none, notOw_nz, nz_some, nz_none, bindT_nm, bindT_raw, bindT_pair, bindT_t3, bindT_t4, store, storeS, lcL_nil, lcL_cons, lcPut_some, lcPut_none, f2_eq_nil, f2_ne_nil, int_fold, bool_fold, str_fold, dp_int, dp_bool, dp_str, dp_unit, dp_list, dp_tup, dp_pair, dp_t3, f1_neg, f1_abs, f1_int, f2_add, f2_sub, f2_lt, f2_le, f2_gt, f2_ge, f2_mn2, f2_mx2, augD_add, augD_sub, f1_all, f1_any, f1_sum, f2_in_list, f2_notin_list, f2_in_tup, f2_notin_tup, f2_eq, f2_ne, f2_in_dict, f2_notin_dict, f2_ix_dict, f3_get, pre2_get, pre3_get, preM_append, preM_pop, preM_extend, preM_set, preM_addI, preM_popK, preM_update, fM_pop, fM_popK, m1, m2, G_FEW, show ¬ 12 < s.a * s.b * s.c by omega]
/-! the search, step by step -/
abbrev Own := List Cell
abbrev Left := List (Tup Cell)
def keyOf (own : Own) (c : Cell) : Tup Cell := Tup.mk (kySort (own ++ [c]))
def addOne (own : Own) (left : Left) (later : List (Tup Cell × Left)) (c : Cell) : List (Tup Cell × Left) := tput later (keyOf own c) (hitsIn left [c])
def headRow (left : Left) : Own := match left with
  | [] => []
  | r :: _ => r.items
def addAll (later : List (Tup Cell × Left)) (p : Own × Left) : List (Tup Cell × Left) := (headRow p.2).foldl (addOne p.1 p.2) later
def laterOf (line : List (Own × Left)) : List (Tup Cell × Left) := line.foldl addAll []
def lineOf (later : List (Tup Cell × Left)) : List (Own × Left) := (kySort (later.map (·.1))).map fun k => (k.items, (tlook later k).getD [])
def goodOf (line : List (Own × Left)) : List Own := (line.filter fun p => p.2.isEmpty).map (·.1)
def okLine (line : List (Own × Left)) : Bool := decide (line.length ≤ 1000) && line.all fun p => decide (p.1.length ≤ 1000) && (!p.2.isEmpty && (decide (p.2.length ≤ 100000) && p.2.all fun r => decide (r.items.length ≤ 6)))
theorem keyOf_ne (own : Own) (c : Cell) : (keyOf own c).items ≠ [] := by
  intro e
  have := congrArg List.length e
  unfold keyOf at this
  rw [show (Tup.mk (kySort (own ++ [c]))).items = kySort (own ++ [c]) from rfl, ← sortT_eq, length_sortT] at this
  simp at this
theorem addOne_len (own : Own) (left : Left) (later : List (Tup Cell × Left)) (c : Cell) : (addOne own left later c).length ≤ later.length + 1 := tput_length _ _ _
theorem tput_keys {α β : Type} [DecidableEq α] {kvs : List (α × β)} {k : α} {v : β} {P : α → Prop} (h : ∀ p ∈ kvs, P p.1) (hk : P k) : ∀ p ∈ tput kvs k v, P p.1 := by
  unfold tput
  split
  · intro p hp
    obtain ⟨q, hq, rfl⟩ := List.mem_map.mp hp
    split <;> exact h q hq
  · intro p hp
    rcases List.mem_append.mp hp with hp | hp
    · exact h p hp
    · rw [List.mem_singleton] at hp; subst hp; exact hk
/-- what is known of later: few, each with a key that has cells -/
def okLater (m : Nat) (later : List (Tup Cell × Left)) : Prop := later.length ≤ m ∧ ∀ p ∈ later, p.1.items ≠ []
theorem fewest_b4 (n : Nat) (e0 e1 e2 e3 e4 : Sl) (own : Own) (left : Left) (later : List (Tup Cell × Left)) (c : Cell) (j : Sl) (ho : own.length ≤ 1000) (hl : left.length ≤ 100000) (hr : ∀ r ∈ left, r.items.length ≤ 6) (hk : later.length < SL) :
    (bindT [e0, e1, e2, e3, e4, .fz (Datum.toD own), .fz (Datum.toD left), .ow (dD later), j] (.nm 8) (Datum.toD c)).bind (fun env => execB cons (R (n + 1)) b_fewest_in_4 env) = some (.nx, [e0, e1, e2, e3, e4, .fz (Datum.toD own), .fz (Datum.toD left), .ow (dD (addOne own left later c)), .fz (Datum.toD c)]) := by
  have h1 := r_hits_in n left _ [c] (.inl rfl) (by unfold SL; omega) (fun r hm => by have := hr r hm; unfold SL; omega)
  have h2 := f2_add_list own [c] (by unfold SL; simp; omega)
  have h3 := f1_sorted_list (own ++ [c]) (by decide) (by unfold SL; simp; omega)
  have h4 := fM_set later (keyOf own c) (hitsIn left [c]) hk
  unfold keyOf at h4
  rw [sortT_eq] at h3
  simp [b_fewest_in_4, -Option.map_eq_some_iff, -List.map_map, -Option.bind_some, -Option.map_some, obind_some, omap_some, ex_fn, ev_cst, ev_glb, ev_rd, ev_p1, ev_p2, ev_p3, ev_chain, ev_and, ev_or, ev_not, ev_ite, ev_tup, ev_lst, ev_call, ev_mut, ev_oex, ev_opk, ev_peek, ev_snil, ev_scons, ev_anil, ev_aex, ev_abw, ev_cnil, ev_ccons, ev_iex, ev_irng, ev_izip, ev_ienum, ex_asg, ex_unp, ex_par, ex_aug, ex_expr, ex_mutS, ex_ret, ex_ifs, ex_pass, ex_nil, ex_cons, ev_ssnil, ev_sscons, st_lc, st_lc2, st_dc, obind_ite, omap_ite, bnd_ite, mp_ite, bnd_some, mp_some, takeAll, aget_val, aget_own, ownS_list, ownS_dD, nodupN, ownsOf, putBack, dat_fz, dat_ow, thaw_fz, thaw_ow, thaw_emp, get_val, get_at, pre2, owOk, P1.fresh, P2.fresh, P3.fresh, Sl.mk, wipeE, unwipe, ownFree_eq, notOw_fz, notOw_emp, notOw_none, notOw_nz, nz_some, nz_none, bindT_nm, bindT_raw, bindT_pair, bindT_t3, bindT_t4, store, storeS, lcL_nil, lcL_cons, lcPut_some, lcPut_none, f2_eq_nil, f2_ne_nil, int_fold, bool_fold, str_fold, dp_int, dp_bool, dp_str, dp_unit, dp_list, dp_tup, dp_pair, dp_t3, f1_neg, f1_abs, f1_int, f2_add, f2_sub, f2_lt, f2_le, f2_gt, f2_ge, f2_mn2, f2_mx2, augD_add, augD_sub, f1_all, f1_any, f1_sum, f2_in_list, f2_notin_list, f2_in_tup, f2_notin_tup, f2_eq, f2_ne, f2_in_dict, f2_notin_dict, f2_ix_dict, f3_get, pre2_get, pre3_get, preM_append, preM_pop, preM_extend, preM_set, preM_addI, preM_popK, preM_update, fM_pop, fM_popK, h1, h2, h3, h4, addOne, keyOf]
theorem fewest_b3 (n : Nat) (e0 e1 e2 e3 e4 : Sl) (p : Own × Left) (later : List (Tup Cell × Left)) (m : Nat) (j : Option D × Option D × Sl) (ho : p.1.length ≤ 1000) (hne : p.2 ≠ []) (hl : p.2.length ≤ 100000) (hr : ∀ r ∈ p.2, r.items.length ≤ 6) (hk : okLater m later) (hm : m + 6 ≤ 6006) :
    okLater (m + 6) (addAll later p) ∧ ∃ j' : Option D × Option D × Sl, (bindT [e0, e1, e2, e3, e4, nz j.1, nz j.2.1, .ow (dD later), j.2.2] (.tp [5, 6]) (Datum.toD p)).bind (fun env => execB cons (R (n + 1)) b_fewest_in_3 env) = some (.nx, [e0, e1, e2, e3, e4, nz j'.1, nz j'.2.1, .ow (dD (addAll later p)), j'.2.2]) := by
  obtain ⟨own, left⟩ := p
  obtain ⟨⟨row⟩, rest, rfl⟩ : ∃ r t, left = r :: t := by
    cases left with
    | nil => exact absurd rfl hne
    | cons r t => exact ⟨r, t, rfl⟩
  have hrow : row.length ≤ 6 := hr _ List.mem_cons_self
  obtain ⟨hI, j4, h4⟩ := forLoop_T (body := fun env => execB cons (R (n + 1)) b_fewest_in_4 env) (tg := .nm 8) (S := fun (later : List (Tup Cell × Left)) (j : Sl) => [e0, e1, e2, e3, e4, .fz (Datum.toD own), .fz (Datum.toD (Tup.mk row :: rest)), .ow (dD later), j]) (f := addOne own (Tup.mk row :: rest)) (fun xs l => okLater (m + 6 - xs.length) l ∧ xs.length ≤ 6)
    (fun c xs l j hi => by
      obtain ⟨⟨h1, h2⟩, h3⟩ := hi
      rw [List.length_cons] at h1 h3
      refine ⟨⟨⟨?_, tput_keys (P := fun k : Tup Cell => k.items ≠ []) h2 (keyOf_ne own c)⟩, by omega⟩, _, fewest_b4 n e0 e1 e2 e3 e4 own _ l c j ho hl hr (by unfold SL; omega)⟩
      have := addOne_len own (Tup.mk row :: rest) l c
      omega)
    row later j.2.2 ⟨⟨by have := hk.1; omega, hk.2⟩, hrow⟩
  have hI2 : okLater (m + 6) (addAll later (own, Tup.mk row :: rest)) := ⟨by have := hI.1.1; simpa [addAll, headRow] using this, by have := hI.1.2; simpa [addAll, headRow] using this⟩
  refine ⟨hI2, (some (Datum.toD own), some (Datum.toD (Tup.mk row :: rest)), j4), ?_⟩
  simp [b_fewest_in_3, l_fewest_in_4, ex_for, -Option.map_eq_some_iff, -List.map_map, -Option.bind_some, -Option.map_some, obind_some, omap_some, ex_fn, ev_cst, ev_glb, ev_rd, ev_p1, ev_p2, ev_p3, ev_chain, ev_and, ev_or, ev_not, ev_ite, ev_tup, ev_lst, ev_call, ev_mut, ev_oex, ev_opk, ev_peek, ev_snil, ev_scons, ev_anil, ev_aex, ev_abw, ev_cnil, ev_ccons, ev_iex, ev_irng, ev_izip, ev_ienum, ex_asg, ex_unp, ex_par, ex_aug, ex_expr, ex_mutS, ex_ret, ex_ifs, ex_pass, ex_nil, ex_cons, ev_ssnil, ev_sscons, st_lc, st_lc2, st_dc, obind_ite, omap_ite, bnd_ite, mp_ite, bnd_some, mp_some, takeAll, aget_val, aget_own, ownS_list, ownS_dD, nodupN, ownsOf, putBack, dat_fz, dat_ow, thaw_fz, thaw_ow, thaw_emp, get_val, get_at, pre2, owOk, P1.fresh, P2.fresh, P3.fresh, Sl.mk, wipeE, unwipe, ownFree_eq, notOw_fz, notOw_emp, notOw_none, notOw_nz, nz_some, nz_none, bindT_nm, bindT_raw, bindT_pair, bindT_t3, bindT_t4, store, storeS, lcL_nil, lcL_cons, lcPut_some, lcPut_none, f2_eq_nil, f2_ne_nil, int_fold, bool_fold, str_fold, dp_int, dp_bool, dp_str, dp_unit, dp_list, dp_tup, dp_pair, dp_t3, f1_neg, f1_abs, f1_int, f2_add, f2_sub, f2_lt, f2_le, f2_gt, f2_ge, f2_mn2, f2_mx2, augD_add, augD_sub, f1_all, f1_any, f1_sum, f2_in_list, f2_notin_list, f2_in_tup, f2_notin_tup, f2_eq, f2_ne, f2_in_dict, f2_notin_dict, f2_ix_dict, f3_get, pre2_get, pre3_get, preM_append, preM_pop, preM_extend, preM_set, preM_addI, preM_popK, preM_update, fM_pop, fM_popK, ixOf, h4, addAll, headRow]

theorem dD_nil' {α β : Type} [DecidableEq α] [Datum α] [DecidableEq β] [Datum β] : dD ([] : List (α × β)) = .dict [] := (rfl)
def fewT : Nat → List (Own × Left) → Option Own
  | 0, _ => none
  | k + 1, line => if line.length ≤ 1000 then (if (goodOf line).isEmpty then (if okLine line then fewT k (lineOf (laterOf line)) else none) else some (minL [] (goodOf line))) else none
theorem okLine_mem {line : List (Own × Left)} (h : okLine line = true) {p : Own × Left} (hp : p ∈ line) : p.1.length ≤ 1000 ∧ p.2 ≠ [] ∧ p.2.length ≤ 100000 ∧ ∀ r ∈ p.2, r.items.length ≤ 6 := by
  unfold okLine at h
  simp only [Bool.and_eq_true, decide_eq_true_eq, List.all_eq_true] at h
  have := h.2 p hp
  refine ⟨this.1, ?_, this.2.2.1, this.2.2.2⟩
  intro e
  have := this.2.1
  rw [e] at this; cases this
theorem fewest_2 (n : Nat) (e0 e1 e2 : Sl) (line : List (Own × Left)) (j4 : Sl) (j5 j6 : Option D) (j7 j8 : Sl) (hl : line.length ≤ 1000) : evalE cons (R (n + 1)) e_fewest_in_2 [e0, e1, e2, .fz (Datum.toD line), j4, nz j5, nz j6, j7, j8] = some (.ow (Datum.toD (goodOf line)), [e0, e1, e2, .fz (Datum.toD line), j4, nz j5, nz j6, j7, j8]) := by
  refine (lc_F (p := fun p : Own × Left => p.2.isEmpty) (g := fun p => p.1) (xs := line) (by simp [-Option.map_eq_some_iff, -List.map_map, -Option.bind_some, -Option.map_some, obind_some, omap_some, ex_fn, ev_cst, ev_glb, ev_rd, ev_p1, ev_p2, ev_p3, ev_chain, ev_and, ev_or, ev_not, ev_ite, ev_tup, ev_lst, ev_call, ev_mut, ev_oex, ev_opk, ev_peek, ev_snil, ev_scons, ev_anil, ev_aex, ev_abw, ev_cnil, ev_ccons, ev_iex, ev_irng, ev_izip, ev_ienum, ex_asg, ex_unp, ex_par, ex_aug, ex_expr, ex_mutS, ex_ret, ex_ifs, ex_pass, ex_nil, ex_cons, ev_ssnil, ev_sscons, st_lc, st_lc2, st_dc, obind_ite, omap_ite, bnd_ite, mp_ite, bnd_some, mp_some, takeAll, aget_val, aget_own, ownS_list, ownS_dD, nodupN, ownsOf, putBack, dat_fz, dat_ow, thaw_fz, thaw_ow, thaw_emp, get_val, get_at, pre2, owOk, P1.fresh, P2.fresh, P3.fresh, Sl.mk, wipeE, unwipe, ownFree_eq, notOw_fz, notOw_emp, notOw_none, notOw_nz, nz_some, nz_none, bindT_nm, bindT_raw, bindT_pair, bindT_t3, bindT_t4, store, storeS, lcL_nil, lcL_cons, lcPut_some, lcPut_none, f2_eq_nil, f2_ne_nil, int_fold, bool_fold, str_fold, dp_int, dp_bool, dp_str, dp_unit, dp_list, dp_tup, dp_pair, dp_t3, f1_neg, f1_abs, f1_int, f2_add, f2_sub, f2_lt, f2_le, f2_gt, f2_ge, f2_mn2, f2_mx2, augD_add, augD_sub, f1_all, f1_any, f1_sum, f2_in_list, f2_notin_list, f2_in_tup, f2_notin_tup, f2_eq, f2_ne, f2_in_dict, f2_notin_dict, f2_ix_dict, f3_get, pre2_get, pre3_get, preM_append, preM_pop, preM_extend, preM_set, preM_addI, preM_popK, preM_update, fM_pop, fM_popK] <;> rfl) (by simp [-Option.map_eq_some_iff, -List.map_map, -Option.bind_some, -Option.map_some, obind_some, omap_some, ex_fn, ev_cst, ev_glb, ev_rd, ev_p1, ev_p2, ev_p3, ev_chain, ev_and, ev_or, ev_not, ev_ite, ev_tup, ev_lst, ev_call, ev_mut, ev_oex, ev_opk, ev_peek, ev_snil, ev_scons, ev_anil, ev_aex, ev_abw, ev_cnil, ev_ccons, ev_iex, ev_irng, ev_izip, ev_ienum, ex_asg, ex_unp, ex_par, ex_aug, ex_expr, ex_mutS, ex_ret, ex_ifs, ex_pass, ex_nil, ex_cons, ev_ssnil, ev_sscons, st_lc, st_lc2, st_dc, obind_ite, omap_ite, bnd_ite, mp_ite, bnd_some, mp_some, takeAll, aget_val, aget_own, ownS_list, ownS_dD, nodupN, ownsOf, putBack, dat_fz, dat_ow, thaw_fz, thaw_ow, thaw_emp, get_val, get_at, pre2, owOk, P1.fresh, P2.fresh, P3.fresh, Sl.mk, wipeE, unwipe, ownFree_eq, notOw_fz, notOw_emp, notOw_none, notOw_nz, nz_some, nz_none, bindT_nm, bindT_raw, bindT_pair, bindT_t3, bindT_t4, store, storeS, lcL_nil, lcL_cons, lcPut_some, lcPut_none, f2_eq_nil, f2_ne_nil, int_fold, bool_fold, str_fold, dp_int, dp_bool, dp_str, dp_unit, dp_list, dp_tup, dp_pair, dp_t3, f1_neg, f1_abs, f1_int, f2_add, f2_sub, f2_lt, f2_le, f2_gt, f2_ge, f2_mn2, f2_mx2, augD_add, augD_sub, f1_all, f1_any, f1_sum, f2_in_list, f2_notin_list, f2_in_tup, f2_notin_tup, f2_eq, f2_ne, f2_in_dict, f2_notin_dict, f2_ix_dict, f3_get, pre2_get, pre3_get, preM_append, preM_pop, preM_extend, preM_set, preM_addI, preM_popK, preM_update, fM_pop, fM_popK]) (by unfold SL; omega) ?_).trans (by simp [-Option.map_eq_some_iff, -List.map_map, -Option.bind_some, -Option.map_some, obind_some, omap_some, ex_fn, ev_cst, ev_glb, ev_rd, ev_p1, ev_p2, ev_p3, ev_chain, ev_and, ev_or, ev_not, ev_ite, ev_tup, ev_lst, ev_call, ev_mut, ev_oex, ev_opk, ev_peek, ev_snil, ev_scons, ev_anil, ev_aex, ev_abw, ev_cnil, ev_ccons, ev_iex, ev_irng, ev_izip, ev_ienum, ex_asg, ex_unp, ex_par, ex_aug, ex_expr, ex_mutS, ex_ret, ex_ifs, ex_pass, ex_nil, ex_cons, ev_ssnil, ev_sscons, st_lc, st_lc2, st_dc, obind_ite, omap_ite, bnd_ite, mp_ite, bnd_some, mp_some, takeAll, aget_val, aget_own, ownS_list, ownS_dD, nodupN, ownsOf, putBack, dat_fz, dat_ow, thaw_fz, thaw_ow, thaw_emp, get_val, get_at, pre2, owOk, P1.fresh, P2.fresh, P3.fresh, Sl.mk, wipeE, unwipe, ownFree_eq, notOw_fz, notOw_emp, notOw_none, notOw_nz, nz_some, nz_none, bindT_nm, bindT_raw, bindT_pair, bindT_t3, bindT_t4, store, storeS, lcL_nil, lcL_cons, lcPut_some, lcPut_none, f2_eq_nil, f2_ne_nil, int_fold, bool_fold, str_fold, dp_int, dp_bool, dp_str, dp_unit, dp_list, dp_tup, dp_pair, dp_t3, f1_neg, f1_abs, f1_int, f2_add, f2_sub, f2_lt, f2_le, f2_gt, f2_ge, f2_mn2, f2_mx2, augD_add, augD_sub, f1_all, f1_any, f1_sum, f2_in_list, f2_notin_list, f2_in_tup, f2_notin_tup, f2_eq, f2_ne, f2_in_dict, f2_notin_dict, f2_ix_dict, f3_get, pre2_get, pre3_get, preM_append, preM_pop, preM_extend, preM_set, preM_addI, preM_popK, preM_update, fM_pop, fM_popK, goodOf])
  intro p _
  simp [-Option.map_eq_some_iff, -List.map_map, -Option.bind_some, -Option.map_some, obind_some, omap_some, ex_fn, ev_cst, ev_glb, ev_rd, ev_p1, ev_p2, ev_p3, ev_chain, ev_and, ev_or, ev_not, ev_ite, ev_tup, ev_lst, ev_call, ev_mut, ev_oex, ev_opk, ev_peek, ev_snil, ev_scons, ev_anil, ev_aex, ev_abw, ev_cnil, ev_ccons, ev_iex, ev_irng, ev_izip, ev_ienum, ex_asg, ex_unp, ex_par, ex_aug, ex_expr, ex_mutS, ex_ret, ex_ifs, ex_pass, ex_nil, ex_cons, ev_ssnil, ev_sscons, st_lc, st_lc2, st_dc, obind_ite, omap_ite, bnd_ite, mp_ite, bnd_some, mp_some, takeAll, aget_val, aget_own, ownS_list, ownS_dD, nodupN, ownsOf, putBack, dat_fz, dat_ow, thaw_fz, thaw_ow, thaw_emp, get_val, get_at, pre2, owOk, P1.fresh, P2.fresh, P3.fresh, Sl.mk, wipeE, unwipe, ownFree_eq, notOw_fz, notOw_emp, notOw_none, notOw_nz, nz_some, nz_none, bindT_nm, bindT_raw, bindT_pair, bindT_t3, bindT_t4, store, storeS, lcL_nil, lcL_cons, lcPut_some, lcPut_none, f2_eq_nil, f2_ne_nil, int_fold, bool_fold, str_fold, dp_int, dp_bool, dp_str, dp_unit, dp_list, dp_tup, dp_pair, dp_t3, f1_neg, f1_abs, f1_int, f2_add, f2_sub, f2_lt, f2_le, f2_gt, f2_ge, f2_mn2, f2_mx2, augD_add, augD_sub, f1_all, f1_any, f1_sum, f2_in_list, f2_notin_list, f2_in_tup, f2_notin_tup, f2_eq, f2_ne, f2_in_dict, f2_notin_dict, f2_ix_dict, f3_get, pre2_get, pre3_get, preM_append, preM_pop, preM_extend, preM_set, preM_addI, preM_popK, preM_update, fM_pop, fM_popK]
  split <;> simp
theorem fewest_b1 (n : Nat) (e0 e1 e2 : Sl) (line : List (Own × Left)) (j4 : Sl) (j5 j6 : Option D) (j7 j8 : Sl) (hl : line.length ≤ 1000) (hg : (goodOf line).isEmpty = true) (ho : okLine line = true) :
    ∃ (k4 : Sl) (k5 k6 : Option D) (k7 k8 : Sl), execB cons (R (n + 1)) b_fewest_in_1 [e0, e1, e2, .fz (Datum.toD line), j4, nz j5, nz j6, j7, j8] = some (.nx, [e0, e1, e2, .fz (Datum.toD (lineOf (laterOf line))), k4, nz k5, nz k6, k7, k8]) := by
  obtain ⟨hI, j3, h3⟩ := forLoop_T (body := fun env => execB cons (R (n + 1)) b_fewest_in_3 env) (tg := .tp [5, 6]) (S := fun (later : List (Tup Cell × Left)) (j : Option D × Option D × Sl) => [e0, e1, e2, .fz (Datum.toD line), .fz (Datum.toD (goodOf line)), nz j.1, nz j.2.1, .ow (dD later), j.2.2]) (f := addAll) (fun xs l => okLater (6000 - xs.length * 6) l ∧ xs.length ≤ 1000 ∧ ∀ p ∈ xs, p ∈ line)
    (fun p xs l j hi => by
      obtain ⟨h1, h2, h3⟩ := hi
      rw [List.length_cons] at h1 h2
      obtain ⟨o1, o2, o3, o4⟩ := okLine_mem ho (h3 p List.mem_cons_self)
      obtain ⟨g1, g2⟩ := fewest_b3 n e0 e1 e2 (.fz (Datum.toD line)) (.fz (Datum.toD (goodOf line))) p l _ j o1 o2 o3 o4 h1 (by omega)
      refine ⟨⟨⟨by have := g1.1; omega, g1.2⟩, by omega, fun q hq => h3 q (List.mem_cons_of_mem _ hq)⟩, g2⟩)
    line [] (j5, j6, j8) ⟨⟨Nat.zero_le _, fun p hp => by cases hp⟩, hl, fun p hp => hp⟩
  have hI2 : okLater 6000 (laterOf line) := by have := hI.1; simpa [laterOf] using this
  have hsrt := f1_sorted_dict_tups (laterOf line) hI2.2 (by decide) (by have := hI2.1; unfold SL; omega)
  have hll : ((laterOf line).map (·.1)).length ≤ 6000 := by rw [List.length_map]; exact hI2.1
  have h2 := fewest_2 n e0 e1 e2 line j4 j5 j6 j7 j8 hl
  rw [show line.foldl addAll [] = laterOf line from rfl] at h3
  simp only [dD_nil'] at h3
  have h5 : evalE cons (R (n + 1)) e_fewest_in_5 [e0, e1, e2, .fz (Datum.toD line), .fz (Datum.toD (goodOf line)), nz j3.1, nz j3.2.1, .ow (dD (laterOf line)), j3.2.2] = some (.ow (Datum.toD (lineOf (laterOf line))), [e0, e1, e2, .fz (Datum.toD line), .fz (Datum.toD (goodOf line)), nz j3.1, nz j3.2.1, .ow (dD (laterOf line)), j3.2.2]) := by
    refine (lc_M (g := fun k : Tup Cell => (k.items, (tlook (laterOf line) k).getD [])) (xs := kySort ((laterOf line).map (·.1))) (by simp [-Option.map_eq_some_iff, -List.map_map, -Option.bind_some, -Option.map_some, obind_some, omap_some, ex_fn, ev_cst, ev_glb, ev_rd, ev_p1, ev_p2, ev_p3, ev_chain, ev_and, ev_or, ev_not, ev_ite, ev_tup, ev_lst, ev_call, ev_mut, ev_oex, ev_opk, ev_peek, ev_snil, ev_scons, ev_anil, ev_aex, ev_abw, ev_cnil, ev_ccons, ev_iex, ev_irng, ev_izip, ev_ienum, ex_asg, ex_unp, ex_par, ex_aug, ex_expr, ex_mutS, ex_ret, ex_ifs, ex_pass, ex_nil, ex_cons, ev_ssnil, ev_sscons, st_lc, st_lc2, st_dc, obind_ite, omap_ite, bnd_ite, mp_ite, bnd_some, mp_some, takeAll, aget_val, aget_own, ownS_list, ownS_dD, nodupN, ownsOf, putBack, dat_fz, dat_ow, thaw_fz, thaw_ow, thaw_emp, get_val, get_at, pre2, owOk, P1.fresh, P2.fresh, P3.fresh, Sl.mk, wipeE, unwipe, ownFree_eq, notOw_fz, notOw_emp, notOw_none, notOw_nz, nz_some, nz_none, bindT_nm, bindT_raw, bindT_pair, bindT_t3, bindT_t4, store, storeS, lcL_nil, lcL_cons, lcPut_some, lcPut_none, f2_eq_nil, f2_ne_nil, int_fold, bool_fold, str_fold, dp_int, dp_bool, dp_str, dp_unit, dp_list, dp_tup, dp_pair, dp_t3, f1_neg, f1_abs, f1_int, f2_add, f2_sub, f2_lt, f2_le, f2_gt, f2_ge, f2_mn2, f2_mx2, augD_add, augD_sub, f1_all, f1_any, f1_sum, f2_in_list, f2_notin_list, f2_in_tup, f2_notin_tup, f2_eq, f2_ne, f2_in_dict, f2_notin_dict, f2_ix_dict, f3_get, pre2_get, pre3_get, preM_append, preM_pop, preM_extend, preM_set, preM_addI, preM_popK, preM_update, fM_pop, fM_popK, hsrt, sortT_eq] <;> rfl) (by simp [-Option.map_eq_some_iff, -List.map_map, -Option.bind_some, -Option.map_some, obind_some, omap_some, ex_fn, ev_cst, ev_glb, ev_rd, ev_p1, ev_p2, ev_p3, ev_chain, ev_and, ev_or, ev_not, ev_ite, ev_tup, ev_lst, ev_call, ev_mut, ev_oex, ev_opk, ev_peek, ev_snil, ev_scons, ev_anil, ev_aex, ev_abw, ev_cnil, ev_ccons, ev_iex, ev_irng, ev_izip, ev_ienum, ex_asg, ex_unp, ex_par, ex_aug, ex_expr, ex_mutS, ex_ret, ex_ifs, ex_pass, ex_nil, ex_cons, ev_ssnil, ev_sscons, st_lc, st_lc2, st_dc, obind_ite, omap_ite, bnd_ite, mp_ite, bnd_some, mp_some, takeAll, aget_val, aget_own, ownS_list, ownS_dD, nodupN, ownsOf, putBack, dat_fz, dat_ow, thaw_fz, thaw_ow, thaw_emp, get_val, get_at, pre2, owOk, P1.fresh, P2.fresh, P3.fresh, Sl.mk, wipeE, unwipe, ownFree_eq, notOw_fz, notOw_emp, notOw_none, notOw_nz, nz_some, nz_none, bindT_nm, bindT_raw, bindT_pair, bindT_t3, bindT_t4, store, storeS, lcL_nil, lcL_cons, lcPut_some, lcPut_none, f2_eq_nil, f2_ne_nil, int_fold, bool_fold, str_fold, dp_int, dp_bool, dp_str, dp_unit, dp_list, dp_tup, dp_pair, dp_t3, f1_neg, f1_abs, f1_int, f2_add, f2_sub, f2_lt, f2_le, f2_gt, f2_ge, f2_mn2, f2_mx2, augD_add, augD_sub, f1_all, f1_any, f1_sum, f2_in_list, f2_notin_list, f2_in_tup, f2_notin_tup, f2_eq, f2_ne, f2_in_dict, f2_notin_dict, f2_ix_dict, f3_get, pre2_get, pre3_get, preM_append, preM_pop, preM_extend, preM_set, preM_addI, preM_popK, preM_update, fM_pop, fM_popK]) (by rw [← sortT_eq, length_sortT]; unfold SL; omega) ?_).trans (by simp [-Option.map_eq_some_iff, -List.map_map, -Option.bind_some, -Option.map_some, obind_some, omap_some, ex_fn, ev_cst, ev_glb, ev_rd, ev_p1, ev_p2, ev_p3, ev_chain, ev_and, ev_or, ev_not, ev_ite, ev_tup, ev_lst, ev_call, ev_mut, ev_oex, ev_opk, ev_peek, ev_snil, ev_scons, ev_anil, ev_aex, ev_abw, ev_cnil, ev_ccons, ev_iex, ev_irng, ev_izip, ev_ienum, ex_asg, ex_unp, ex_par, ex_aug, ex_expr, ex_mutS, ex_ret, ex_ifs, ex_pass, ex_nil, ex_cons, ev_ssnil, ev_sscons, st_lc, st_lc2, st_dc, obind_ite, omap_ite, bnd_ite, mp_ite, bnd_some, mp_some, takeAll, aget_val, aget_own, ownS_list, ownS_dD, nodupN, ownsOf, putBack, dat_fz, dat_ow, thaw_fz, thaw_ow, thaw_emp, get_val, get_at, pre2, owOk, P1.fresh, P2.fresh, P3.fresh, Sl.mk, wipeE, unwipe, ownFree_eq, notOw_fz, notOw_emp, notOw_none, notOw_nz, nz_some, nz_none, bindT_nm, bindT_raw, bindT_pair, bindT_t3, bindT_t4, store, storeS, lcL_nil, lcL_cons, lcPut_some, lcPut_none, f2_eq_nil, f2_ne_nil, int_fold, bool_fold, str_fold, dp_int, dp_bool, dp_str, dp_unit, dp_list, dp_tup, dp_pair, dp_t3, f1_neg, f1_abs, f1_int, f2_add, f2_sub, f2_lt, f2_le, f2_gt, f2_ge, f2_mn2, f2_mx2, augD_add, augD_sub, f1_all, f1_any, f1_sum, f2_in_list, f2_notin_list, f2_in_tup, f2_notin_tup, f2_eq, f2_ne, f2_in_dict, f2_notin_dict, f2_ix_dict, f3_get, pre2_get, pre3_get, preM_append, preM_pop, preM_extend, preM_set, preM_addI, preM_popK, preM_update, fM_pop, fM_popK, lineOf])
    rintro ⟨k⟩ hk
    rw [← sortT_eq] at hk
    obtain ⟨q, hq, e⟩ := List.mem_map.mp (mem_sortT.mp hk)
    obtain ⟨v, hv⟩ : ∃ v, tlook (laterOf line) (Tup.mk k) = some v := by
      unfold tlook
      cases hf : (laterOf line).find? fun p => decide (p.1 = Tup.mk k) with
      | some p => exact ⟨p.2, rfl⟩
      | none =>
        have := List.find?_eq_none.mp hf q hq
        simp [e] at this
    simp [-Option.map_eq_some_iff, -List.map_map, -Option.bind_some, -Option.map_some, obind_some, omap_some, ex_fn, ev_cst, ev_glb, ev_rd, ev_p1, ev_p2, ev_p3, ev_chain, ev_and, ev_or, ev_not, ev_ite, ev_tup, ev_lst, ev_call, ev_mut, ev_oex, ev_opk, ev_peek, ev_snil, ev_scons, ev_anil, ev_aex, ev_abw, ev_cnil, ev_ccons, ev_iex, ev_irng, ev_izip, ev_ienum, ex_asg, ex_unp, ex_par, ex_aug, ex_expr, ex_mutS, ex_ret, ex_ifs, ex_pass, ex_nil, ex_cons, ev_ssnil, ev_sscons, st_lc, st_lc2, st_dc, obind_ite, omap_ite, bnd_ite, mp_ite, bnd_some, mp_some, takeAll, aget_val, aget_own, ownS_list, ownS_dD, nodupN, ownsOf, putBack, dat_fz, dat_ow, thaw_fz, thaw_ow, thaw_emp, get_val, get_at, pre2, owOk, P1.fresh, P2.fresh, P3.fresh, Sl.mk, wipeE, unwipe, ownFree_eq, notOw_fz, notOw_emp, notOw_none, notOw_nz, nz_some, nz_none, bindT_nm, bindT_raw, bindT_pair, bindT_t3, bindT_t4, store, storeS, lcL_nil, lcL_cons, lcPut_some, lcPut_none, f2_eq_nil, f2_ne_nil, int_fold, bool_fold, str_fold, dp_int, dp_bool, dp_str, dp_unit, dp_list, dp_tup, dp_pair, dp_t3, f1_neg, f1_abs, f1_int, f2_add, f2_sub, f2_lt, f2_le, f2_gt, f2_ge, f2_mn2, f2_mx2, augD_add, augD_sub, f1_all, f1_any, f1_sum, f2_in_list, f2_notin_list, f2_in_tup, f2_notin_tup, f2_eq, f2_ne, f2_in_dict, f2_notin_dict, f2_ix_dict, f3_get, pre2_get, pre3_get, preM_append, preM_pop, preM_extend, preM_set, preM_addI, preM_popK, preM_update, fM_pop, fM_popK, hv]
  refine ⟨.fz (Datum.toD (goodOf line)), j3.1, j3.2.1, .ow (dD (laterOf line)), j3.2.2, ?_⟩
  have hg0 : f2 .ne (Datum.toD (goodOf line)) (.list []) = some (Datum.toD false) := by rw [f2_ne_nil _ (by decide), hg]; rfl
  simp [b_fewest_in_1, -Option.map_eq_some_iff, -List.map_map, -Option.bind_some, -Option.map_some, obind_some, omap_some, ex_fn, ev_cst, ev_glb, ev_rd, ev_p1, ev_p2, ev_p3, ev_chain, ev_and, ev_or, ev_not, ev_ite, ev_tup, ev_lst, ev_call, ev_mut, ev_oex, ev_opk, ev_peek, ev_snil, ev_scons, ev_anil, ev_aex, ev_abw, ev_cnil, ev_ccons, ev_iex, ev_irng, ev_izip, ev_ienum, ex_asg, ex_unp, ex_par, ex_aug, ex_expr, ex_mutS, ex_ret, ex_ifs, ex_pass, ex_nil, ex_cons, ev_ssnil, ev_sscons, st_lc, st_lc2, st_dc, obind_ite, omap_ite, bnd_ite, mp_ite, bnd_some, mp_some, takeAll, aget_val, aget_own, ownS_list, ownS_dD, nodupN, ownsOf, putBack, dat_fz, dat_ow, thaw_fz, thaw_ow, thaw_emp, get_val, get_at, pre2, owOk, P1.fresh, P2.fresh, P3.fresh, Sl.mk, wipeE, unwipe, ownFree_eq, notOw_fz, notOw_emp, notOw_none, notOw_nz, nz_some, nz_none, bindT_nm, bindT_raw, bindT_pair, bindT_t3, bindT_t4, store, storeS, lcL_nil, lcL_cons, lcPut_some, lcPut_none, f2_eq_nil, f2_ne_nil, int_fold, bool_fold, str_fold, dp_int, dp_bool, dp_str, dp_unit, dp_list, dp_tup, dp_pair, dp_t3, f1_neg, f1_abs, f1_int, f2_add, f2_sub, f2_lt, f2_le, f2_gt, f2_ge, f2_mn2, f2_mx2, augD_add, augD_sub, f1_all, f1_any, f1_sum, f2_in_list, f2_notin_list, f2_in_tup, f2_notin_tup, f2_eq, f2_ne, f2_in_dict, f2_notin_dict, f2_ix_dict, f3_get, pre2_get, pre3_get, preM_append, preM_pop, preM_extend, preM_set, preM_addI, preM_popK, preM_update, fM_pop, fM_popK, h2, hg0, ev_dct, pairUp, dmerge, l_fewest_in_3, ex_for, h3, h5]
theorem fewest_loop (n : Nat) (e0 e1 e2 : Sl) : ∀ (k : Nat) (line : List (Own × Left)) (r : Own), fewT k line = some r → ∀ (m : Nat) (j4 : Sl) (j5 j6 : Option D) (j7 j8 : Sl), k ≤ m →
    ∃ rest, whlLoop (fun env => testOf (evalE cons (R (n + 1)) t_fewest_in_1 env)) (fun env => execB cons (R (n + 1)) b_fewest_in_1 env) m [e0, e1, e2, .fz (Datum.toD line), j4, nz j5, nz j6, j7, j8] = some (.rt (.fz (Datum.toD r)), e0 :: e1 :: rest)
  | 0, _, _, h, _, _, _, _, _, _, _ => by cases h
  | k + 1, line, r, h, 0, _, _, _, _, _, hm => by omega
  | k + 1, line, r, h, m + 1, j4, j5, j6, j7, j8, hm => by
    unfold fewT at h
    have e : ∀ env, whlLoop (fun env => testOf (evalE cons (R (n + 1)) t_fewest_in_1 env)) (fun env => execB cons (R (n + 1)) b_fewest_in_1 env) (m + 1) env = (execB cons (R (n + 1)) b_fewest_in_1 env).bind fun p => match p.1 with
      | .nx => whlLoop (fun env => testOf (evalE cons (R (n + 1)) t_fewest_in_1 env)) (fun env => execB cons (R (n + 1)) b_fewest_in_1 env) m p.2
      | .rt s => some (.rt s, p.2) := fun env => rfl
    rw [e]
    by_cases hl : line.length ≤ 1000
    · rw [if_pos hl] at h
      cases hg : (goodOf line).isEmpty with
      | true =>
        rw [hg, if_pos rfl] at h
        cases ho : okLine line with
        | true =>
          rw [ho, if_pos rfl] at h
          obtain ⟨k4, k5, k6, k7, k8, hb⟩ := fewest_b1 n e0 e1 e2 line j4 j5 j6 j7 j8 hl hg ho
          rw [hb]
          exact fewest_loop n e0 e1 e2 k _ r h m k4 k5 k6 k7 k8 (by omega)
        | false => rw [ho, if_neg (by simp)] at h; cases h
      | false =>
        rw [hg, if_neg (by simp)] at h
        have hr := Option.some.inj h
        have h2 := fewest_2 n e0 e1 e2 line j4 j5 j6 j7 j8 hl
        have hg0 : f2 .ne (Datum.toD (goodOf line)) (.list []) = some (Datum.toD true) := by rw [f2_ne_nil _ (by decide), hg]; rfl
        have hgn : goodOf line ≠ [] := by intro e; rw [e] at hg; cases hg
        have hmn := f1_mn_ne [] (goodOf line) hgn (by decide)
        rw [hr] at hmn
        refine ⟨[e2, .fz (Datum.toD line), .fz (Datum.toD (goodOf line)), nz j5, nz j6, j7, j8], ?_⟩
        have hb : execB cons (R (n + 1)) b_fewest_in_1 [e0, e1, e2, .fz (Datum.toD line), j4, nz j5, nz j6, j7, j8] = some (.rt (.fz (Datum.toD r)), [e0, e1, e2, .fz (Datum.toD line), .fz (Datum.toD (goodOf line)), nz j5, nz j6, j7, j8]) := by
          simp [b_fewest_in_1, -Option.map_eq_some_iff, -List.map_map, -Option.bind_some, -Option.map_some, obind_some, omap_some, ex_fn, ev_cst, ev_glb, ev_rd, ev_p1, ev_p2, ev_p3, ev_chain, ev_and, ev_or, ev_not, ev_ite, ev_tup, ev_lst, ev_call, ev_mut, ev_oex, ev_opk, ev_peek, ev_snil, ev_scons, ev_anil, ev_aex, ev_abw, ev_cnil, ev_ccons, ev_iex, ev_irng, ev_izip, ev_ienum, ex_asg, ex_unp, ex_par, ex_aug, ex_expr, ex_mutS, ex_ret, ex_ifs, ex_pass, ex_nil, ex_cons, ev_ssnil, ev_sscons, st_lc, st_lc2, st_dc, obind_ite, omap_ite, bnd_ite, mp_ite, bnd_some, mp_some, takeAll, aget_val, aget_own, ownS_list, ownS_dD, nodupN, ownsOf, putBack, dat_fz, dat_ow, thaw_fz, thaw_ow, thaw_emp, get_val, get_at, pre2, owOk, P1.fresh, P2.fresh, P3.fresh, Sl.mk, wipeE, unwipe, ownFree_eq, notOw_fz, notOw_emp, notOw_none, notOw_nz, nz_some, nz_none, bindT_nm, bindT_raw, bindT_pair, bindT_t3, bindT_t4, store, storeS, lcL_nil, lcL_cons, lcPut_some, lcPut_none, f2_eq_nil, f2_ne_nil, int_fold, bool_fold, str_fold, dp_int, dp_bool, dp_str, dp_unit, dp_list, dp_tup, dp_pair, dp_t3, f1_neg, f1_abs, f1_int, f2_add, f2_sub, f2_lt, f2_le, f2_gt, f2_ge, f2_mn2, f2_mx2, augD_add, augD_sub, f1_all, f1_any, f1_sum, f2_in_list, f2_notin_list, f2_in_tup, f2_notin_tup, f2_eq, f2_ne, f2_in_dict, f2_notin_dict, f2_ix_dict, f3_get, pre2_get, pre3_get, preM_append, preM_pop, preM_extend, preM_set, preM_addI, preM_popK, preM_update, fM_pop, fM_popK, h2, hg0, hmn]
        rw [hb]; rfl
    · rw [if_neg hl] at h; cases h
theorem r_fewest_in (n k : Nat) (s : Cell) (l : Int) (r : Own) (hs : okS s = true) (hl : 2 ≤ l ∧ l ≤ 6) (hk : k ≤ 1000) (h : fewT k [([], rowsIn s l)] = some r) : R (n + 3) 15 [.fz (Datum.toD s), .fz (Datum.toD l)] = some (.fz (Datum.toD r), [.fz (Datum.toD s), .fz (Datum.toD l)]) := by
  obtain ⟨rest, hw⟩ := fewest_loop (n + 1) (.fz (Datum.toD s)) (.fz (Datum.toD l)) (.fz (Datum.toD (cellsIn s))) k _ r h WF .emp none none .emp .emp (Nat.le_trans hk (by decide))
  simp only [nz_none] at hw
  simp [R_fewest_in, c_fewest_in, -Option.map_eq_some_iff, -List.map_map, -Option.bind_some, -Option.map_some, obind_some, omap_some, ex_fn, ev_cst, ev_glb, ev_rd, ev_p1, ev_p2, ev_p3, ev_chain, ev_and, ev_or, ev_not, ev_ite, ev_tup, ev_lst, ev_call, ev_mut, ev_oex, ev_opk, ev_peek, ev_snil, ev_scons, ev_anil, ev_aex, ev_abw, ev_cnil, ev_ccons, ev_iex, ev_irng, ev_izip, ev_ienum, ex_asg, ex_unp, ex_par, ex_aug, ex_expr, ex_mutS, ex_ret, ex_ifs, ex_pass, ex_nil, ex_cons, ev_ssnil, ev_sscons, st_lc, st_lc2, st_dc, obind_ite, omap_ite, bnd_ite, mp_ite, bnd_some, mp_some, takeAll, aget_val, aget_own, ownS_list, ownS_dD, nodupN, ownsOf, putBack, dat_fz, dat_ow, thaw_fz, thaw_ow, thaw_emp, get_val, get_at, pre2, owOk, P1.fresh, P2.fresh, P3.fresh, Sl.mk, wipeE, unwipe, ownFree_eq, notOw_fz, notOw_emp, notOw_none, notOw_nz, nz_some, nz_none, bindT_nm, bindT_raw, bindT_pair, bindT_t3, bindT_t4, store, storeS, lcL_nil, lcL_cons, lcPut_some, lcPut_none, f2_eq_nil, f2_ne_nil, int_fold, bool_fold, str_fold, dp_int, dp_bool, dp_str, dp_unit, dp_list, dp_tup, dp_pair, dp_t3, f1_neg, f1_abs, f1_int, f2_add, f2_sub, f2_lt, f2_le, f2_gt, f2_ge, f2_mn2, f2_mx2, augD_add, augD_sub, f1_all, f1_any, f1_sum, f2_in_list, f2_notin_list, f2_in_tup, f2_notin_tup, f2_eq, f2_ne, f2_in_dict, f2_notin_dict, f2_ix_dict, f3_get, pre2_get, pre3_get, preM_append, preM_pop, preM_extend, preM_set, preM_addI, preM_popK, preM_update, fM_pop, fM_popK, r_cells_in, r_rows_in, hs, hl, mkT_nil2, l_fewest_in_1, ex_whl, hw]

end G94
end

section
set_option maxRecDepth 100000
set_option linter.all false
namespace G94
open Ky PySem PySem.W
def mostOf (s : Cell) (out : Own) : Own := (cellsIn s).filter fun c => !decide (c ∈ out)
theorem r_most_in (n k : Nat) (s : Cell) (l : Int) (r : Own) (hs : okS s = true) (hl : 2 ≤ l ∧ l ≤ 6) (hk : k ≤ 1000) (h : fewT k [([], rowsIn s l)] = some r) : R (n + 4) 16 [.fz (Datum.toD s), .fz (Datum.toD l)] = some (.ow (Datum.toD (mostOf s r)), [.fz (Datum.toD s), .fz (Datum.toD l)]) := by
  have hf := r_fewest_in n k s l r hs hl hk h
  have h1 : evalE cons (R (n + 3)) e_most_in_1 [.fz (Datum.toD s), .fz (Datum.toD l), .fz (Datum.toD r), .emp] = some (.ow (Datum.toD (mostOf s r)), [.fz (Datum.toD s), .fz (Datum.toD l), .fz (Datum.toD r), .emp]) := by
    refine (lc_S (p := fun c => !decide (c ∈ r)) (xs := cellsIn s) (by simp [-Option.map_eq_some_iff, -List.map_map, -Option.bind_some, -Option.map_some, obind_some, omap_some, ex_fn, ev_cst, ev_glb, ev_rd, ev_p1, ev_p2, ev_p3, ev_chain, ev_and, ev_or, ev_not, ev_ite, ev_tup, ev_lst, ev_call, ev_mut, ev_oex, ev_opk, ev_peek, ev_snil, ev_scons, ev_anil, ev_aex, ev_abw, ev_cnil, ev_ccons, ev_iex, ev_irng, ev_izip, ev_ienum, ex_asg, ex_unp, ex_par, ex_aug, ex_expr, ex_mutS, ex_ret, ex_ifs, ex_pass, ex_nil, ex_cons, ev_ssnil, ev_sscons, st_lc, st_lc2, st_dc, obind_ite, omap_ite, bnd_ite, mp_ite, bnd_some, mp_some, takeAll, aget_val, aget_own, ownS_list, ownS_dD, nodupN, ownsOf, putBack, dat_fz, dat_ow, thaw_fz, thaw_ow, thaw_emp, get_val, get_at, pre2, owOk, P1.fresh, P2.fresh, P3.fresh, Sl.mk, wipeE, unwipe, ownFree_eq, notOw_fz, notOw_emp, notOw_none, notOw_nz, nz_some, nz_none, bindT_nm, bindT_raw, bindT_pair, bindT_t3, bindT_t4, store, storeS, lcL_nil, lcL_cons, lcPut_some, lcPut_none, f2_eq_nil, f2_ne_nil, int_fold, bool_fold, str_fold, dp_int, dp_bool, dp_str, dp_unit, dp_list, dp_tup, dp_pair, dp_t3, f1_neg, f1_abs, f1_int, f2_add, f2_sub, f2_lt, f2_le, f2_gt, f2_ge, f2_mn2, f2_mx2, augD_add, augD_sub, f1_all, f1_any, f1_sum, f2_in_list, f2_notin_list, f2_in_tup, f2_notin_tup, f2_eq, f2_ne, f2_in_dict, f2_notin_dict, f2_ix_dict, f3_get, pre2_get, pre3_get, preM_append, preM_pop, preM_extend, preM_set, preM_addI, preM_popK, preM_update, fM_pop, fM_popK, r_cells_in, hs] <;> rfl) rfl (Nat.le_trans (len_cells_le hs).2 (by decide)) ?_).trans (by simp [-Option.map_eq_some_iff, -List.map_map, -Option.bind_some, -Option.map_some, obind_some, omap_some, ex_fn, ev_cst, ev_glb, ev_rd, ev_p1, ev_p2, ev_p3, ev_chain, ev_and, ev_or, ev_not, ev_ite, ev_tup, ev_lst, ev_call, ev_mut, ev_oex, ev_opk, ev_peek, ev_snil, ev_scons, ev_anil, ev_aex, ev_abw, ev_cnil, ev_ccons, ev_iex, ev_irng, ev_izip, ev_ienum, ex_asg, ex_unp, ex_par, ex_aug, ex_expr, ex_mutS, ex_ret, ex_ifs, ex_pass, ex_nil, ex_cons, ev_ssnil, ev_sscons, st_lc, st_lc2, st_dc, obind_ite, omap_ite, bnd_ite, mp_ite, bnd_some, mp_some, takeAll, aget_val, aget_own, ownS_list, ownS_dD, nodupN, ownsOf, putBack, dat_fz, dat_ow, thaw_fz, thaw_ow, thaw_emp, get_val, get_at, pre2, owOk, P1.fresh, P2.fresh, P3.fresh, Sl.mk, wipeE, unwipe, ownFree_eq, notOw_fz, notOw_emp, notOw_none, notOw_nz, nz_some, nz_none, bindT_nm, bindT_raw, bindT_pair, bindT_t3, bindT_t4, store, storeS, lcL_nil, lcL_cons, lcPut_some, lcPut_none, f2_eq_nil, f2_ne_nil, int_fold, bool_fold, str_fold, dp_int, dp_bool, dp_str, dp_unit, dp_list, dp_tup, dp_pair, dp_t3, f1_neg, f1_abs, f1_int, f2_add, f2_sub, f2_lt, f2_le, f2_gt, f2_ge, f2_mn2, f2_mx2, augD_add, augD_sub, f1_all, f1_any, f1_sum, f2_in_list, f2_notin_list, f2_in_tup, f2_notin_tup, f2_eq, f2_ne, f2_in_dict, f2_notin_dict, f2_ix_dict, f3_get, pre2_get, pre3_get, preM_append, preM_pop, preM_extend, preM_set, preM_addI, preM_popK, preM_update, fM_pop, fM_popK, mostOf])
    intro c _
    simp [-Option.map_eq_some_iff, -List.map_map, -Option.bind_some, -Option.map_some, obind_some, omap_some, ex_fn, ev_cst, ev_glb, ev_rd, ev_p1, ev_p2, ev_p3, ev_chain, ev_and, ev_or, ev_not, ev_ite, ev_tup, ev_lst, ev_call, ev_mut, ev_oex, ev_opk, ev_peek, ev_snil, ev_scons, ev_anil, ev_aex, ev_abw, ev_cnil, ev_ccons, ev_iex, ev_irng, ev_izip, ev_ienum, ex_asg, ex_unp, ex_par, ex_aug, ex_expr, ex_mutS, ex_ret, ex_ifs, ex_pass, ex_nil, ex_cons, ev_ssnil, ev_sscons, st_lc, st_lc2, st_dc, obind_ite, omap_ite, bnd_ite, mp_ite, bnd_some, mp_some, takeAll, aget_val, aget_own, ownS_list, ownS_dD, nodupN, ownsOf, putBack, dat_fz, dat_ow, thaw_fz, thaw_ow, thaw_emp, get_val, get_at, pre2, owOk, P1.fresh, P2.fresh, P3.fresh, Sl.mk, wipeE, unwipe, ownFree_eq, notOw_fz, notOw_emp, notOw_none, notOw_nz, nz_some, nz_none, bindT_nm, bindT_raw, bindT_pair, bindT_t3, bindT_t4, store, storeS, lcL_nil, lcL_cons, lcPut_some, lcPut_none, f2_eq_nil, f2_ne_nil, int_fold, bool_fold, str_fold, dp_int, dp_bool, dp_str, dp_unit, dp_list, dp_tup, dp_pair, dp_t3, f1_neg, f1_abs, f1_int, f2_add, f2_sub, f2_lt, f2_le, f2_gt, f2_ge, f2_mn2, f2_mx2, augD_add, augD_sub, f1_all, f1_any, f1_sum, f2_in_list, f2_notin_list, f2_in_tup, f2_notin_tup, f2_eq, f2_ne, f2_in_dict, f2_notin_dict, f2_ix_dict, f3_get, pre2_get, pre3_get, preM_append, preM_pop, preM_extend, preM_set, preM_addI, preM_popK, preM_update, fM_pop, fM_popK]
    split <;> simp
  simp [R_most_in, c_most_in, -Option.map_eq_some_iff, -List.map_map, -Option.bind_some, -Option.map_some, obind_some, omap_some, ex_fn, ev_cst, ev_glb, ev_rd, ev_p1, ev_p2, ev_p3, ev_chain, ev_and, ev_or, ev_not, ev_ite, ev_tup, ev_lst, ev_call, ev_mut, ev_oex, ev_opk, ev_peek, ev_snil, ev_scons, ev_anil, ev_aex, ev_abw, ev_cnil, ev_ccons, ev_iex, ev_irng, ev_izip, ev_ienum, ex_asg, ex_unp, ex_par, ex_aug, ex_expr, ex_mutS, ex_ret, ex_ifs, ex_pass, ex_nil, ex_cons, ev_ssnil, ev_sscons, st_lc, st_lc2, st_dc, obind_ite, omap_ite, bnd_ite, mp_ite, bnd_some, mp_some, takeAll, aget_val, aget_own, ownS_list, ownS_dD, nodupN, ownsOf, putBack, dat_fz, dat_ow, thaw_fz, thaw_ow, thaw_emp, get_val, get_at, pre2, owOk, P1.fresh, P2.fresh, P3.fresh, Sl.mk, wipeE, unwipe, ownFree_eq, notOw_fz, notOw_emp, notOw_none, notOw_nz, nz_some, nz_none, bindT_nm, bindT_raw, bindT_pair, bindT_t3, bindT_t4, store, storeS, lcL_nil, lcL_cons, lcPut_some, lcPut_none, f2_eq_nil, f2_ne_nil, int_fold, bool_fold, str_fold, dp_int, dp_bool, dp_str, dp_unit, dp_list, dp_tup, dp_pair, dp_t3, f1_neg, f1_abs, f1_int, f2_add, f2_sub, f2_lt, f2_le, f2_gt, f2_ge, f2_mn2, f2_mx2, augD_add, augD_sub, f1_all, f1_any, f1_sum, f2_in_list, f2_notin_list, f2_in_tup, f2_notin_tup, f2_eq, f2_ne, f2_in_dict, f2_notin_dict, f2_ix_dict, f3_get, pre2_get, pre3_get, preM_append, preM_pop, preM_extend, preM_set, preM_addI, preM_popK, preM_update, fM_pop, fM_popK, hf, h1]
section
variable (n k : Nat) (s : Cell) (l : Int) (r : Own) (hs : okS s = true) (hl : 2 ≤ l ∧ l ≤ 6) (hv : s.a * s.b * s.c ≤ 12) (hk : k ≤ 1000) (h : fewT k [([], rowsIn s l)] = some r)
include hs hl hv hk h
theorem r_fewest_meeting : R (n + 5) 19 [.fz (Datum.toD s), .fz (Datum.toD l)] = some (.fz (Datum.toD (r.length : Int)), [.fz (Datum.toD s), .fz (Datum.toD l)]) := by
  have hf := r_fewest_in (n + 1) k s l r hs hl hk h
  simp [R_fewest_meeting, c_fewest_meeting, -Option.map_eq_some_iff, -List.map_map, -Option.bind_some, -Option.map_some, obind_some, omap_some, ex_fn, ev_cst, ev_glb, ev_rd, ev_p1, ev_p2, ev_p3, ev_chain, ev_and, ev_or, ev_not, ev_ite, ev_tup, ev_lst, ev_call, ev_mut, ev_oex, ev_opk, ev_peek, ev_snil, ev_scons, ev_anil, ev_aex, ev_abw, ev_cnil, ev_ccons, ev_iex, ev_irng, ev_izip, ev_ienum, ex_asg, ex_unp, ex_par, ex_aug, ex_expr, ex_mutS, ex_ret, ex_ifs, ex_pass, ex_nil, ex_cons, ev_ssnil, ev_sscons, st_lc, st_lc2, st_dc, obind_ite, omap_ite, bnd_ite, mp_ite, bnd_some, mp_some, takeAll, aget_val, aget_own, ownS_list, ownS_dD, nodupN, ownsOf, putBack, dat_fz, dat_ow, thaw_fz, thaw_ow, thaw_emp, get_val, get_at, pre2, owOk, P1.fresh, P2.fresh, P3.fresh, Sl.mk, wipeE, unwipe, ownFree_eq, notOw_fz, notOw_emp, notOw_none, notOw_nz, nz_some, nz_none, bindT_nm, bindT_raw, bindT_pair, bindT_t3, bindT_t4, store, storeS, lcL_nil, lcL_cons, lcPut_some, lcPut_none, f2_eq_nil, f2_ne_nil, int_fold, bool_fold, str_fold, dp_int, dp_bool, dp_str, dp_unit, dp_list, dp_tup, dp_pair, dp_t3, f1_neg, f1_abs, f1_int, f2_add, f2_sub, f2_lt, f2_le, f2_gt, f2_ge, f2_mn2, f2_mx2, augD_add, augD_sub, f1_all, f1_any, f1_sum, f2_in_list, f2_notin_list, f2_in_tup, f2_notin_tup, f2_eq, f2_ne, f2_in_dict, f2_notin_dict, f2_ix_dict, f3_get, pre2_get, pre3_get, preM_append, preM_pop, preM_extend, preM_set, preM_addI, preM_popK, preM_update, fM_pop, fM_popK, r_need_box, r_need_few, hs, hl, hv, hf]
theorem r_first_meeting : R (n + 5) 20 [.fz (Datum.toD s), .fz (Datum.toD l)] = some (.fz (Datum.toD (Tup.mk r)), [.fz (Datum.toD s), .fz (Datum.toD l)]) := by
  have hf := r_fewest_in (n + 1) k s l r hs hl hk h
  simp [R_first_meeting, c_first_meeting, -Option.map_eq_some_iff, -List.map_map, -Option.bind_some, -Option.map_some, obind_some, omap_some, ex_fn, ev_cst, ev_glb, ev_rd, ev_p1, ev_p2, ev_p3, ev_chain, ev_and, ev_or, ev_not, ev_ite, ev_tup, ev_lst, ev_call, ev_mut, ev_oex, ev_opk, ev_peek, ev_snil, ev_scons, ev_anil, ev_aex, ev_abw, ev_cnil, ev_ccons, ev_iex, ev_irng, ev_izip, ev_ienum, ex_asg, ex_unp, ex_par, ex_aug, ex_expr, ex_mutS, ex_ret, ex_ifs, ex_pass, ex_nil, ex_cons, ev_ssnil, ev_sscons, st_lc, st_lc2, st_dc, obind_ite, omap_ite, bnd_ite, mp_ite, bnd_some, mp_some, takeAll, aget_val, aget_own, ownS_list, ownS_dD, nodupN, ownsOf, putBack, dat_fz, dat_ow, thaw_fz, thaw_ow, thaw_emp, get_val, get_at, pre2, owOk, P1.fresh, P2.fresh, P3.fresh, Sl.mk, wipeE, unwipe, ownFree_eq, notOw_fz, notOw_emp, notOw_none, notOw_nz, nz_some, nz_none, bindT_nm, bindT_raw, bindT_pair, bindT_t3, bindT_t4, store, storeS, lcL_nil, lcL_cons, lcPut_some, lcPut_none, f2_eq_nil, f2_ne_nil, int_fold, bool_fold, str_fold, dp_int, dp_bool, dp_str, dp_unit, dp_list, dp_tup, dp_pair, dp_t3, f1_neg, f1_abs, f1_int, f2_add, f2_sub, f2_lt, f2_le, f2_gt, f2_ge, f2_mn2, f2_mx2, augD_add, augD_sub, f1_all, f1_any, f1_sum, f2_in_list, f2_notin_list, f2_in_tup, f2_notin_tup, f2_eq, f2_ne, f2_in_dict, f2_notin_dict, f2_ix_dict, f3_get, pre2_get, pre3_get, preM_append, preM_pop, preM_extend, preM_set, preM_addI, preM_popK, preM_update, fM_pop, fM_popK, r_need_box, r_need_few, hs, hl, hv, hf]
theorem r_most_marks : R (n + 5) 21 [.fz (Datum.toD s), .fz (Datum.toD l)] = some (.fz (Datum.toD ((mostOf s r).length : Int)), [.fz (Datum.toD s), .fz (Datum.toD l)]) := by
  have hf := r_most_in n k s l r hs hl hk h
  simp [R_most_marks, c_most_marks, -Option.map_eq_some_iff, -List.map_map, -Option.bind_some, -Option.map_some, obind_some, omap_some, ex_fn, ev_cst, ev_glb, ev_rd, ev_p1, ev_p2, ev_p3, ev_chain, ev_and, ev_or, ev_not, ev_ite, ev_tup, ev_lst, ev_call, ev_mut, ev_oex, ev_opk, ev_peek, ev_snil, ev_scons, ev_anil, ev_aex, ev_abw, ev_cnil, ev_ccons, ev_iex, ev_irng, ev_izip, ev_ienum, ex_asg, ex_unp, ex_par, ex_aug, ex_expr, ex_mutS, ex_ret, ex_ifs, ex_pass, ex_nil, ex_cons, ev_ssnil, ev_sscons, st_lc, st_lc2, st_dc, obind_ite, omap_ite, bnd_ite, mp_ite, bnd_some, mp_some, takeAll, aget_val, aget_own, ownS_list, ownS_dD, nodupN, ownsOf, putBack, dat_fz, dat_ow, thaw_fz, thaw_ow, thaw_emp, get_val, get_at, pre2, owOk, P1.fresh, P2.fresh, P3.fresh, Sl.mk, wipeE, unwipe, ownFree_eq, notOw_fz, notOw_emp, notOw_none, notOw_nz, nz_some, nz_none, bindT_nm, bindT_raw, bindT_pair, bindT_t3, bindT_t4, store, storeS, lcL_nil, lcL_cons, lcPut_some, lcPut_none, f2_eq_nil, f2_ne_nil, int_fold, bool_fold, str_fold, dp_int, dp_bool, dp_str, dp_unit, dp_list, dp_tup, dp_pair, dp_t3, f1_neg, f1_abs, f1_int, f2_add, f2_sub, f2_lt, f2_le, f2_gt, f2_ge, f2_mn2, f2_mx2, augD_add, augD_sub, f1_all, f1_any, f1_sum, f2_in_list, f2_notin_list, f2_in_tup, f2_notin_tup, f2_eq, f2_ne, f2_in_dict, f2_notin_dict, f2_ix_dict, f3_get, pre2_get, pre3_get, preM_append, preM_pop, preM_extend, preM_set, preM_addI, preM_popK, preM_update, fM_pop, fM_popK, r_need_box, r_need_few, hs, hl, hv, hf]
theorem r_some_marks : R (n + 5) 22 [.fz (Datum.toD s), .fz (Datum.toD l)] = some (.fz (Datum.toD (Tup.mk (mostOf s r))), [.fz (Datum.toD s), .fz (Datum.toD l)]) := by
  have hf := r_most_in n k s l r hs hl hk h
  simp [R_some_marks, c_some_marks, -Option.map_eq_some_iff, -List.map_map, -Option.bind_some, -Option.map_some, obind_some, omap_some, ex_fn, ev_cst, ev_glb, ev_rd, ev_p1, ev_p2, ev_p3, ev_chain, ev_and, ev_or, ev_not, ev_ite, ev_tup, ev_lst, ev_call, ev_mut, ev_oex, ev_opk, ev_peek, ev_snil, ev_scons, ev_anil, ev_aex, ev_abw, ev_cnil, ev_ccons, ev_iex, ev_irng, ev_izip, ev_ienum, ex_asg, ex_unp, ex_par, ex_aug, ex_expr, ex_mutS, ex_ret, ex_ifs, ex_pass, ex_nil, ex_cons, ev_ssnil, ev_sscons, st_lc, st_lc2, st_dc, obind_ite, omap_ite, bnd_ite, mp_ite, bnd_some, mp_some, takeAll, aget_val, aget_own, ownS_list, ownS_dD, nodupN, ownsOf, putBack, dat_fz, dat_ow, thaw_fz, thaw_ow, thaw_emp, get_val, get_at, pre2, owOk, P1.fresh, P2.fresh, P3.fresh, Sl.mk, wipeE, unwipe, ownFree_eq, notOw_fz, notOw_emp, notOw_none, notOw_nz, nz_some, nz_none, bindT_nm, bindT_raw, bindT_pair, bindT_t3, bindT_t4, store, storeS, lcL_nil, lcL_cons, lcPut_some, lcPut_none, f2_eq_nil, f2_ne_nil, int_fold, bool_fold, str_fold, dp_int, dp_bool, dp_str, dp_unit, dp_list, dp_tup, dp_pair, dp_t3, f1_neg, f1_abs, f1_int, f2_add, f2_sub, f2_lt, f2_le, f2_gt, f2_ge, f2_mn2, f2_mx2, augD_add, augD_sub, f1_all, f1_any, f1_sum, f2_in_list, f2_notin_list, f2_in_tup, f2_notin_tup, f2_eq, f2_ne, f2_in_dict, f2_notin_dict, f2_ix_dict, f3_get, pre2_get, pre3_get, preM_append, preM_pop, preM_extend, preM_set, preM_addI, preM_popK, preM_update, fM_pop, fM_popK, r_need_box, r_need_few, hs, hl, hv, hf]
end
/-! the law's own search -/
def hitsAll (rows : List (Tup Cell)) (own : Tup Cell) : Bool := (rows.filter fun r => (r.items.filter fun c => decide (c ∈ own.items)).isEmpty).isEmpty
def goesOn (own : Own) (c : Cell) : Bool := match own.getLast? with
  | none => true
  | some o => DatumOrd.lt o c
def nextOf (cells : Own) (own : Tup Cell) : List (Tup Cell) := (cells.filter (goesOn own.items)).map fun c => Tup.mk (own.items ++ [c])
def firstT (rows : List (Tup Cell)) (cells : Own) : Nat → List (Tup Cell) → Option (Tup Cell)
  | 0, _ => none
  | k + 1, line => match line.find? (hitsAll rows) with
    | some own => some own
    | none => if (line.flatMap (nextOf cells)).length ≤ 1000 ∧ ((line.flatMap (nextOf cells)).all fun o => decide (o.items.length ≤ 100)) = true then firstT rows cells k (line.flatMap (nextOf cells)) else none
section
variable (n : Nat) (rows : List (Tup Cell)) (cells : Own) (h1 : rows.length ≤ 100000) (h2 : ∀ r ∈ rows, r.items.length ≤ 100) (h3 : cells.length ≤ 1000)
include h1 h2
theorem first_b2 (j2 j3 j7 : Sl) (own : Tup Cell) (j : Sl) : ∃ j' : Sl, (bindT [.fz (Datum.toD rows), .fz (Datum.toD cells), j2, j3, j, .emp, .emp, j7] (.nm 4) (Datum.toD own)).bind (fun env => execB cons (R n) b_law_first_2 env) = some (if hitsAll rows own then .rt (.fz (Datum.toD own)) else .nx, [.fz (Datum.toD rows), .fz (Datum.toD cells), j2, j3, j', .emp, .emp, j7]) := by
  obtain ⟨own⟩ := own
  have e3 : evalE cons (R n) e_law_first_3 [.fz (Datum.toD rows), .fz (Datum.toD cells), j2, j3, .fz (Datum.toD (Tup.mk own)), .emp, .emp, j7] = some (.ow (Datum.toD (rows.filter fun r => (r.items.filter fun c => decide (c ∈ own)).isEmpty)), [.fz (Datum.toD rows), .fz (Datum.toD cells), j2, j3, .fz (Datum.toD (Tup.mk own)), .emp, .emp, j7]) := by
    refine (lc_S (p := fun r : Tup Cell => (r.items.filter fun c => decide (c ∈ own)).isEmpty) (xs := rows) (by simp [-Option.map_eq_some_iff, -List.map_map, -Option.bind_some, -Option.map_some, obind_some, omap_some, ex_fn, ev_cst, ev_glb, ev_rd, ev_p1, ev_p2, ev_p3, ev_chain, ev_and, ev_or, ev_not, ev_ite, ev_tup, ev_lst, ev_call, ev_mut, ev_oex, ev_opk, ev_peek, ev_snil, ev_scons, ev_anil, ev_aex, ev_abw, ev_cnil, ev_ccons, ev_iex, ev_irng, ev_izip, ev_ienum, ex_asg, ex_unp, ex_par, ex_aug, ex_expr, ex_mutS, ex_ret, ex_ifs, ex_pass, ex_nil, ex_cons, ev_ssnil, ev_sscons, st_lc, st_lc2, st_dc, obind_ite, omap_ite, bnd_ite, mp_ite, bnd_some, mp_some, takeAll, aget_val, aget_own, ownS_list, ownS_dD, nodupN, ownsOf, putBack, dat_fz, dat_ow, thaw_fz, thaw_ow, thaw_emp, get_val, get_at, pre2, owOk, P1.fresh, P2.fresh, P3.fresh, Sl.mk, wipeE, unwipe, ownFree_eq, notOw_fz, notOw_emp, notOw_none, notOw_nz, nz_some, nz_none, bindT_nm, bindT_raw, bindT_pair, bindT_t3, bindT_t4, store, storeS, lcL_nil, lcL_cons, lcPut_some, lcPut_none, f2_eq_nil, f2_ne_nil, int_fold, bool_fold, str_fold, dp_int, dp_bool, dp_str, dp_unit, dp_list, dp_tup, dp_pair, dp_t3, f1_neg, f1_abs, f1_int, f2_add, f2_sub, f2_lt, f2_le, f2_gt, f2_ge, f2_mn2, f2_mx2, augD_add, augD_sub, f1_all, f1_any, f1_sum, f2_in_list, f2_notin_list, f2_in_tup, f2_notin_tup, f2_eq, f2_ne, f2_in_dict, f2_notin_dict, f2_ix_dict, f3_get, pre2_get, pre3_get, preM_append, preM_pop, preM_extend, preM_set, preM_addI, preM_popK, preM_update, fM_pop, fM_popK] <;> rfl) rfl (by unfold SL; omega) ?_).trans (by simp [-Option.map_eq_some_iff, -List.map_map, -Option.bind_some, -Option.map_some, obind_some, omap_some, ex_fn, ev_cst, ev_glb, ev_rd, ev_p1, ev_p2, ev_p3, ev_chain, ev_and, ev_or, ev_not, ev_ite, ev_tup, ev_lst, ev_call, ev_mut, ev_oex, ev_opk, ev_peek, ev_snil, ev_scons, ev_anil, ev_aex, ev_abw, ev_cnil, ev_ccons, ev_iex, ev_irng, ev_izip, ev_ienum, ex_asg, ex_unp, ex_par, ex_aug, ex_expr, ex_mutS, ex_ret, ex_ifs, ex_pass, ex_nil, ex_cons, ev_ssnil, ev_sscons, st_lc, st_lc2, st_dc, obind_ite, omap_ite, bnd_ite, mp_ite, bnd_some, mp_some, takeAll, aget_val, aget_own, ownS_list, ownS_dD, nodupN, ownsOf, putBack, dat_fz, dat_ow, thaw_fz, thaw_ow, thaw_emp, get_val, get_at, pre2, owOk, P1.fresh, P2.fresh, P3.fresh, Sl.mk, wipeE, unwipe, ownFree_eq, notOw_fz, notOw_emp, notOw_none, notOw_nz, nz_some, nz_none, bindT_nm, bindT_raw, bindT_pair, bindT_t3, bindT_t4, store, storeS, lcL_nil, lcL_cons, lcPut_some, lcPut_none, f2_eq_nil, f2_ne_nil, int_fold, bool_fold, str_fold, dp_int, dp_bool, dp_str, dp_unit, dp_list, dp_tup, dp_pair, dp_t3, f1_neg, f1_abs, f1_int, f2_add, f2_sub, f2_lt, f2_le, f2_gt, f2_ge, f2_mn2, f2_mx2, augD_add, augD_sub, f1_all, f1_any, f1_sum, f2_in_list, f2_notin_list, f2_in_tup, f2_notin_tup, f2_eq, f2_ne, f2_in_dict, f2_notin_dict, f2_ix_dict, f3_get, pre2_get, pre3_get, preM_append, preM_pop, preM_extend, preM_set, preM_addI, preM_popK, preM_update, fM_pop, fM_popK])
    rintro ⟨r⟩ hr
    have e4 : evalE cons (R n) e_law_first_4 [.fz (Datum.toD rows), .fz (Datum.toD cells), j2, j3, .fz (Datum.toD (Tup.mk own)), .fz (Datum.toD (Tup.mk r)), .emp, j7] = some (.ow (Datum.toD (r.filter fun c => decide (c ∈ own))), [.fz (Datum.toD rows), .fz (Datum.toD cells), j2, j3, .fz (Datum.toD (Tup.mk own)), .fz (Datum.toD (Tup.mk r)), .emp, j7]) := by
      have hr2 : r.length ≤ 100 := h2 _ hr
      refine (lc_S (p := fun c => decide (c ∈ own)) (xs := r) (by simp [-Option.map_eq_some_iff, -List.map_map, -Option.bind_some, -Option.map_some, obind_some, omap_some, ex_fn, ev_cst, ev_glb, ev_rd, ev_p1, ev_p2, ev_p3, ev_chain, ev_and, ev_or, ev_not, ev_ite, ev_tup, ev_lst, ev_call, ev_mut, ev_oex, ev_opk, ev_peek, ev_snil, ev_scons, ev_anil, ev_aex, ev_abw, ev_cnil, ev_ccons, ev_iex, ev_irng, ev_izip, ev_ienum, ex_asg, ex_unp, ex_par, ex_aug, ex_expr, ex_mutS, ex_ret, ex_ifs, ex_pass, ex_nil, ex_cons, ev_ssnil, ev_sscons, st_lc, st_lc2, st_dc, obind_ite, omap_ite, bnd_ite, mp_ite, bnd_some, mp_some, takeAll, aget_val, aget_own, ownS_list, ownS_dD, nodupN, ownsOf, putBack, dat_fz, dat_ow, thaw_fz, thaw_ow, thaw_emp, get_val, get_at, pre2, owOk, P1.fresh, P2.fresh, P3.fresh, Sl.mk, wipeE, unwipe, ownFree_eq, notOw_fz, notOw_emp, notOw_none, notOw_nz, nz_some, nz_none, bindT_nm, bindT_raw, bindT_pair, bindT_t3, bindT_t4, store, storeS, lcL_nil, lcL_cons, lcPut_some, lcPut_none, f2_eq_nil, f2_ne_nil, int_fold, bool_fold, str_fold, dp_int, dp_bool, dp_str, dp_unit, dp_list, dp_tup, dp_pair, dp_t3, f1_neg, f1_abs, f1_int, f2_add, f2_sub, f2_lt, f2_le, f2_gt, f2_ge, f2_mn2, f2_mx2, augD_add, augD_sub, f1_all, f1_any, f1_sum, f2_in_list, f2_notin_list, f2_in_tup, f2_notin_tup, f2_eq, f2_ne, f2_in_dict, f2_notin_dict, f2_ix_dict, f3_get, pre2_get, pre3_get, preM_append, preM_pop, preM_extend, preM_set, preM_addI, preM_popK, preM_update, fM_pop, fM_popK] <;> rfl) rfl (by unfold SL; omega) ?_).trans (by simp [-Option.map_eq_some_iff, -List.map_map, -Option.bind_some, -Option.map_some, obind_some, omap_some, ex_fn, ev_cst, ev_glb, ev_rd, ev_p1, ev_p2, ev_p3, ev_chain, ev_and, ev_or, ev_not, ev_ite, ev_tup, ev_lst, ev_call, ev_mut, ev_oex, ev_opk, ev_peek, ev_snil, ev_scons, ev_anil, ev_aex, ev_abw, ev_cnil, ev_ccons, ev_iex, ev_irng, ev_izip, ev_ienum, ex_asg, ex_unp, ex_par, ex_aug, ex_expr, ex_mutS, ex_ret, ex_ifs, ex_pass, ex_nil, ex_cons, ev_ssnil, ev_sscons, st_lc, st_lc2, st_dc, obind_ite, omap_ite, bnd_ite, mp_ite, bnd_some, mp_some, takeAll, aget_val, aget_own, ownS_list, ownS_dD, nodupN, ownsOf, putBack, dat_fz, dat_ow, thaw_fz, thaw_ow, thaw_emp, get_val, get_at, pre2, owOk, P1.fresh, P2.fresh, P3.fresh, Sl.mk, wipeE, unwipe, ownFree_eq, notOw_fz, notOw_emp, notOw_none, notOw_nz, nz_some, nz_none, bindT_nm, bindT_raw, bindT_pair, bindT_t3, bindT_t4, store, storeS, lcL_nil, lcL_cons, lcPut_some, lcPut_none, f2_eq_nil, f2_ne_nil, int_fold, bool_fold, str_fold, dp_int, dp_bool, dp_str, dp_unit, dp_list, dp_tup, dp_pair, dp_t3, f1_neg, f1_abs, f1_int, f2_add, f2_sub, f2_lt, f2_le, f2_gt, f2_ge, f2_mn2, f2_mx2, augD_add, augD_sub, f1_all, f1_any, f1_sum, f2_in_list, f2_notin_list, f2_in_tup, f2_notin_tup, f2_eq, f2_ne, f2_in_dict, f2_notin_dict, f2_ix_dict, f3_get, pre2_get, pre3_get, preM_append, preM_pop, preM_extend, preM_set, preM_addI, preM_popK, preM_update, fM_pop, fM_popK])
      intro c _
      simp [-Option.map_eq_some_iff, -List.map_map, -Option.bind_some, -Option.map_some, obind_some, omap_some, ex_fn, ev_cst, ev_glb, ev_rd, ev_p1, ev_p2, ev_p3, ev_chain, ev_and, ev_or, ev_not, ev_ite, ev_tup, ev_lst, ev_call, ev_mut, ev_oex, ev_opk, ev_peek, ev_snil, ev_scons, ev_anil, ev_aex, ev_abw, ev_cnil, ev_ccons, ev_iex, ev_irng, ev_izip, ev_ienum, ex_asg, ex_unp, ex_par, ex_aug, ex_expr, ex_mutS, ex_ret, ex_ifs, ex_pass, ex_nil, ex_cons, ev_ssnil, ev_sscons, st_lc, st_lc2, st_dc, obind_ite, omap_ite, bnd_ite, mp_ite, bnd_some, mp_some, takeAll, aget_val, aget_own, ownS_list, ownS_dD, nodupN, ownsOf, putBack, dat_fz, dat_ow, thaw_fz, thaw_ow, thaw_emp, get_val, get_at, pre2, owOk, P1.fresh, P2.fresh, P3.fresh, Sl.mk, wipeE, unwipe, ownFree_eq, notOw_fz, notOw_emp, notOw_none, notOw_nz, nz_some, nz_none, bindT_nm, bindT_raw, bindT_pair, bindT_t3, bindT_t4, store, storeS, lcL_nil, lcL_cons, lcPut_some, lcPut_none, f2_eq_nil, f2_ne_nil, int_fold, bool_fold, str_fold, dp_int, dp_bool, dp_str, dp_unit, dp_list, dp_tup, dp_pair, dp_t3, f1_neg, f1_abs, f1_int, f2_add, f2_sub, f2_lt, f2_le, f2_gt, f2_ge, f2_mn2, f2_mx2, augD_add, augD_sub, f1_all, f1_any, f1_sum, f2_in_list, f2_notin_list, f2_in_tup, f2_notin_tup, f2_eq, f2_ne, f2_in_dict, f2_notin_dict, f2_ix_dict, f3_get, pre2_get, pre3_get, preM_append, preM_pop, preM_extend, preM_set, preM_addI, preM_popK, preM_update, fM_pop, fM_popK]
      split <;> simp
    have e5 := f2_eq_nil (r.filter fun c => decide (c ∈ own)) (by decide)
    generalize hB : (r.filter fun c => decide (c ∈ own)).isEmpty = B at e5
    cases B <;> simp [-Option.map_eq_some_iff, -List.map_map, -Option.bind_some, -Option.map_some, obind_some, omap_some, ex_fn, ev_cst, ev_glb, ev_rd, ev_p1, ev_p2, ev_p3, ev_chain, ev_and, ev_or, ev_not, ev_ite, ev_tup, ev_lst, ev_call, ev_mut, ev_oex, ev_opk, ev_peek, ev_snil, ev_scons, ev_anil, ev_aex, ev_abw, ev_cnil, ev_ccons, ev_iex, ev_irng, ev_izip, ev_ienum, ex_asg, ex_unp, ex_par, ex_aug, ex_expr, ex_mutS, ex_ret, ex_ifs, ex_pass, ex_nil, ex_cons, ev_ssnil, ev_sscons, st_lc, st_lc2, st_dc, obind_ite, omap_ite, bnd_ite, mp_ite, bnd_some, mp_some, takeAll, aget_val, aget_own, ownS_list, ownS_dD, nodupN, ownsOf, putBack, dat_fz, dat_ow, thaw_fz, thaw_ow, thaw_emp, get_val, get_at, pre2, owOk, P1.fresh, P2.fresh, P3.fresh, Sl.mk, wipeE, unwipe, ownFree_eq, notOw_fz, notOw_emp, notOw_none, notOw_nz, nz_some, nz_none, bindT_nm, bindT_raw, bindT_pair, bindT_t3, bindT_t4, store, storeS, lcL_nil, lcL_cons, lcPut_some, lcPut_none, f2_eq_nil, f2_ne_nil, int_fold, bool_fold, str_fold, dp_int, dp_bool, dp_str, dp_unit, dp_list, dp_tup, dp_pair, dp_t3, f1_neg, f1_abs, f1_int, f2_add, f2_sub, f2_lt, f2_le, f2_gt, f2_ge, f2_mn2, f2_mx2, augD_add, augD_sub, f1_all, f1_any, f1_sum, f2_in_list, f2_notin_list, f2_in_tup, f2_notin_tup, f2_eq, f2_ne, f2_in_dict, f2_notin_dict, f2_ix_dict, f3_get, pre2_get, pre3_get, preM_append, preM_pop, preM_extend, preM_set, preM_addI, preM_popK, preM_update, fM_pop, fM_popK, e4, e5, hB]
  have e6 := f2_eq_nil (rows.filter fun r => (r.items.filter fun c => decide (c ∈ own)).isEmpty) (by decide)
  refine ⟨.fz (Datum.toD (Tup.mk own)), ?_⟩
  unfold hitsAll
  generalize hB : (rows.filter fun r => (r.items.filter fun c => decide (c ∈ own)).isEmpty).isEmpty = B at e6
  cases B <;> simp [b_law_first_2, -Option.map_eq_some_iff, -List.map_map, -Option.bind_some, -Option.map_some, obind_some, omap_some, ex_fn, ev_cst, ev_glb, ev_rd, ev_p1, ev_p2, ev_p3, ev_chain, ev_and, ev_or, ev_not, ev_ite, ev_tup, ev_lst, ev_call, ev_mut, ev_oex, ev_opk, ev_peek, ev_snil, ev_scons, ev_anil, ev_aex, ev_abw, ev_cnil, ev_ccons, ev_iex, ev_irng, ev_izip, ev_ienum, ex_asg, ex_unp, ex_par, ex_aug, ex_expr, ex_mutS, ex_ret, ex_ifs, ex_pass, ex_nil, ex_cons, ev_ssnil, ev_sscons, st_lc, st_lc2, st_dc, obind_ite, omap_ite, bnd_ite, mp_ite, bnd_some, mp_some, takeAll, aget_val, aget_own, ownS_list, ownS_dD, nodupN, ownsOf, putBack, dat_fz, dat_ow, thaw_fz, thaw_ow, thaw_emp, get_val, get_at, pre2, owOk, P1.fresh, P2.fresh, P3.fresh, Sl.mk, wipeE, unwipe, ownFree_eq, notOw_fz, notOw_emp, notOw_none, notOw_nz, nz_some, nz_none, bindT_nm, bindT_raw, bindT_pair, bindT_t3, bindT_t4, store, storeS, lcL_nil, lcL_cons, lcPut_some, lcPut_none, f2_eq_nil, f2_ne_nil, int_fold, bool_fold, str_fold, dp_int, dp_bool, dp_str, dp_unit, dp_list, dp_tup, dp_pair, dp_t3, f1_neg, f1_abs, f1_int, f2_add, f2_sub, f2_lt, f2_le, f2_gt, f2_ge, f2_mn2, f2_mx2, augD_add, augD_sub, f1_all, f1_any, f1_sum, f2_in_list, f2_notin_list, f2_in_tup, f2_notin_tup, f2_eq, f2_ne, f2_in_dict, f2_notin_dict, f2_ix_dict, f3_get, pre2_get, pre3_get, preM_append, preM_pop, preM_extend, preM_set, preM_addI, preM_popK, preM_update, fM_pop, fM_popK, e3, e6, hB]
include h3
omit h1 h2 in
theorem first_6 (j2 j3 : Sl) (own : Tup Cell) (later : List (Tup Cell)) (ho : own.items.length ≤ 100) : evalE cons (R n) e_law_first_6 [.fz (Datum.toD rows), .fz (Datum.toD cells), j2, j3, .fz (Datum.toD own), .emp, .emp, .fz (Datum.toD later)] = some (.ow (Datum.toD (nextOf cells own)), [.fz (Datum.toD rows), .fz (Datum.toD cells), j2, j3, .fz (Datum.toD own), .emp, .emp, .fz (Datum.toD later)]) := by
  obtain ⟨own⟩ := own
  refine (lc_F (p := goesOn own) (g := fun c => Tup.mk (own ++ [c])) (xs := cells) (by simp [-Option.map_eq_some_iff, -List.map_map, -Option.bind_some, -Option.map_some, obind_some, omap_some, ex_fn, ev_cst, ev_glb, ev_rd, ev_p1, ev_p2, ev_p3, ev_chain, ev_and, ev_or, ev_not, ev_ite, ev_tup, ev_lst, ev_call, ev_mut, ev_oex, ev_opk, ev_peek, ev_snil, ev_scons, ev_anil, ev_aex, ev_abw, ev_cnil, ev_ccons, ev_iex, ev_irng, ev_izip, ev_ienum, ex_asg, ex_unp, ex_par, ex_aug, ex_expr, ex_mutS, ex_ret, ex_ifs, ex_pass, ex_nil, ex_cons, ev_ssnil, ev_sscons, st_lc, st_lc2, st_dc, obind_ite, omap_ite, bnd_ite, mp_ite, bnd_some, mp_some, takeAll, aget_val, aget_own, ownS_list, ownS_dD, nodupN, ownsOf, putBack, dat_fz, dat_ow, thaw_fz, thaw_ow, thaw_emp, get_val, get_at, pre2, owOk, P1.fresh, P2.fresh, P3.fresh, Sl.mk, wipeE, unwipe, ownFree_eq, notOw_fz, notOw_emp, notOw_none, notOw_nz, nz_some, nz_none, bindT_nm, bindT_raw, bindT_pair, bindT_t3, bindT_t4, store, storeS, lcL_nil, lcL_cons, lcPut_some, lcPut_none, f2_eq_nil, f2_ne_nil, int_fold, bool_fold, str_fold, dp_int, dp_bool, dp_str, dp_unit, dp_list, dp_tup, dp_pair, dp_t3, f1_neg, f1_abs, f1_int, f2_add, f2_sub, f2_lt, f2_le, f2_gt, f2_ge, f2_mn2, f2_mx2, augD_add, augD_sub, f1_all, f1_any, f1_sum, f2_in_list, f2_notin_list, f2_in_tup, f2_notin_tup, f2_eq, f2_ne, f2_in_dict, f2_notin_dict, f2_ix_dict, f3_get, pre2_get, pre3_get, preM_append, preM_pop, preM_extend, preM_set, preM_addI, preM_popK, preM_update, fM_pop, fM_popK] <;> rfl) rfl (by unfold SL; omega) ?_).trans (by simp [-Option.map_eq_some_iff, -List.map_map, -Option.bind_some, -Option.map_some, obind_some, omap_some, ex_fn, ev_cst, ev_glb, ev_rd, ev_p1, ev_p2, ev_p3, ev_chain, ev_and, ev_or, ev_not, ev_ite, ev_tup, ev_lst, ev_call, ev_mut, ev_oex, ev_opk, ev_peek, ev_snil, ev_scons, ev_anil, ev_aex, ev_abw, ev_cnil, ev_ccons, ev_iex, ev_irng, ev_izip, ev_ienum, ex_asg, ex_unp, ex_par, ex_aug, ex_expr, ex_mutS, ex_ret, ex_ifs, ex_pass, ex_nil, ex_cons, ev_ssnil, ev_sscons, st_lc, st_lc2, st_dc, obind_ite, omap_ite, bnd_ite, mp_ite, bnd_some, mp_some, takeAll, aget_val, aget_own, ownS_list, ownS_dD, nodupN, ownsOf, putBack, dat_fz, dat_ow, thaw_fz, thaw_ow, thaw_emp, get_val, get_at, pre2, owOk, P1.fresh, P2.fresh, P3.fresh, Sl.mk, wipeE, unwipe, ownFree_eq, notOw_fz, notOw_emp, notOw_none, notOw_nz, nz_some, nz_none, bindT_nm, bindT_raw, bindT_pair, bindT_t3, bindT_t4, store, storeS, lcL_nil, lcL_cons, lcPut_some, lcPut_none, f2_eq_nil, f2_ne_nil, int_fold, bool_fold, str_fold, dp_int, dp_bool, dp_str, dp_unit, dp_list, dp_tup, dp_pair, dp_t3, f1_neg, f1_abs, f1_int, f2_add, f2_sub, f2_lt, f2_le, f2_gt, f2_ge, f2_mn2, f2_mx2, augD_add, augD_sub, f1_all, f1_any, f1_sum, f2_in_list, f2_notin_list, f2_in_tup, f2_notin_tup, f2_eq, f2_ne, f2_in_dict, f2_notin_dict, f2_ix_dict, f3_get, pre2_get, pre3_get, preM_append, preM_pop, preM_extend, preM_set, preM_addI, preM_popK, preM_update, fM_pop, fM_popK, nextOf])
  intro c _
  have ha := f2_add_tup own [c] (by unfold SL; simp; simp at ho; omega)
  have he := eq_tup_nil own (by decide)
  cases hl : own.getLast? with
  | none =>
    rw [List.getLast?_eq_none_iff] at hl
    subst hl
    simp [-Option.map_eq_some_iff, -List.map_map, -Option.bind_some, -Option.map_some, obind_some, omap_some, ex_fn, ev_cst, ev_glb, ev_rd, ev_p1, ev_p2, ev_p3, ev_chain, ev_and, ev_or, ev_not, ev_ite, ev_tup, ev_lst, ev_call, ev_mut, ev_oex, ev_opk, ev_peek, ev_snil, ev_scons, ev_anil, ev_aex, ev_abw, ev_cnil, ev_ccons, ev_iex, ev_irng, ev_izip, ev_ienum, ex_asg, ex_unp, ex_par, ex_aug, ex_expr, ex_mutS, ex_ret, ex_ifs, ex_pass, ex_nil, ex_cons, ev_ssnil, ev_sscons, st_lc, st_lc2, st_dc, obind_ite, omap_ite, bnd_ite, mp_ite, bnd_some, mp_some, takeAll, aget_val, aget_own, ownS_list, ownS_dD, nodupN, ownsOf, putBack, dat_fz, dat_ow, thaw_fz, thaw_ow, thaw_emp, get_val, get_at, pre2, owOk, P1.fresh, P2.fresh, P3.fresh, Sl.mk, wipeE, unwipe, ownFree_eq, notOw_fz, notOw_emp, notOw_none, notOw_nz, nz_some, nz_none, bindT_nm, bindT_raw, bindT_pair, bindT_t3, bindT_t4, store, storeS, lcL_nil, lcL_cons, lcPut_some, lcPut_none, f2_eq_nil, f2_ne_nil, int_fold, bool_fold, str_fold, dp_int, dp_bool, dp_str, dp_unit, dp_list, dp_tup, dp_pair, dp_t3, f1_neg, f1_abs, f1_int, f2_add, f2_sub, f2_lt, f2_le, f2_gt, f2_ge, f2_mn2, f2_mx2, augD_add, augD_sub, f1_all, f1_any, f1_sum, f2_in_list, f2_notin_list, f2_in_tup, f2_notin_tup, f2_eq, f2_ne, f2_in_dict, f2_notin_dict, f2_ix_dict, f3_get, pre2_get, pre3_get, preM_append, preM_pop, preM_extend, preM_set, preM_addI, preM_popK, preM_update, fM_pop, fM_popK, he, ha, goesOn]
  | some o =>
    have hne : own.isEmpty = false := by cases own with | nil => cases hl | cons _ _ => rfl
    rw [hne] at he
    have hx : ixOf own (-1) = some o := by rw [ixLast]; exact hl
    have hg := f2_gt_t3 c o (by decide)
    have hgo : goesOn own c = DatumOrd.lt o c := by unfold goesOn; rw [hl]
    rw [hgo]
    cases hlt : DatumOrd.lt o c with
    | true => rw [hlt] at hg; simp [-Option.map_eq_some_iff, -List.map_map, -Option.bind_some, -Option.map_some, obind_some, omap_some, ex_fn, ev_cst, ev_glb, ev_rd, ev_p1, ev_p2, ev_p3, ev_chain, ev_and, ev_or, ev_not, ev_ite, ev_tup, ev_lst, ev_call, ev_mut, ev_oex, ev_opk, ev_peek, ev_snil, ev_scons, ev_anil, ev_aex, ev_abw, ev_cnil, ev_ccons, ev_iex, ev_irng, ev_izip, ev_ienum, ex_asg, ex_unp, ex_par, ex_aug, ex_expr, ex_mutS, ex_ret, ex_ifs, ex_pass, ex_nil, ex_cons, ev_ssnil, ev_sscons, st_lc, st_lc2, st_dc, obind_ite, omap_ite, bnd_ite, mp_ite, bnd_some, mp_some, takeAll, aget_val, aget_own, ownS_list, ownS_dD, nodupN, ownsOf, putBack, dat_fz, dat_ow, thaw_fz, thaw_ow, thaw_emp, get_val, get_at, pre2, owOk, P1.fresh, P2.fresh, P3.fresh, Sl.mk, wipeE, unwipe, ownFree_eq, notOw_fz, notOw_emp, notOw_none, notOw_nz, nz_some, nz_none, bindT_nm, bindT_raw, bindT_pair, bindT_t3, bindT_t4, store, storeS, lcL_nil, lcL_cons, lcPut_some, lcPut_none, f2_eq_nil, f2_ne_nil, int_fold, bool_fold, str_fold, dp_int, dp_bool, dp_str, dp_unit, dp_list, dp_tup, dp_pair, dp_t3, f1_neg, f1_abs, f1_int, f2_add, f2_sub, f2_lt, f2_le, f2_gt, f2_ge, f2_mn2, f2_mx2, augD_add, augD_sub, f1_all, f1_any, f1_sum, f2_in_list, f2_notin_list, f2_in_tup, f2_notin_tup, f2_eq, f2_ne, f2_in_dict, f2_notin_dict, f2_ix_dict, f3_get, pre2_get, pre3_get, preM_append, preM_pop, preM_extend, preM_set, preM_addI, preM_popK, preM_update, fM_pop, fM_popK, he, ha, hx, hg]
    | false => rw [hlt] at hg; simp [-Option.map_eq_some_iff, -List.map_map, -Option.bind_some, -Option.map_some, obind_some, omap_some, ex_fn, ev_cst, ev_glb, ev_rd, ev_p1, ev_p2, ev_p3, ev_chain, ev_and, ev_or, ev_not, ev_ite, ev_tup, ev_lst, ev_call, ev_mut, ev_oex, ev_opk, ev_peek, ev_snil, ev_scons, ev_anil, ev_aex, ev_abw, ev_cnil, ev_ccons, ev_iex, ev_irng, ev_izip, ev_ienum, ex_asg, ex_unp, ex_par, ex_aug, ex_expr, ex_mutS, ex_ret, ex_ifs, ex_pass, ex_nil, ex_cons, ev_ssnil, ev_sscons, st_lc, st_lc2, st_dc, obind_ite, omap_ite, bnd_ite, mp_ite, bnd_some, mp_some, takeAll, aget_val, aget_own, ownS_list, ownS_dD, nodupN, ownsOf, putBack, dat_fz, dat_ow, thaw_fz, thaw_ow, thaw_emp, get_val, get_at, pre2, owOk, P1.fresh, P2.fresh, P3.fresh, Sl.mk, wipeE, unwipe, ownFree_eq, notOw_fz, notOw_emp, notOw_none, notOw_nz, nz_some, nz_none, bindT_nm, bindT_raw, bindT_pair, bindT_t3, bindT_t4, store, storeS, lcL_nil, lcL_cons, lcPut_some, lcPut_none, f2_eq_nil, f2_ne_nil, int_fold, bool_fold, str_fold, dp_int, dp_bool, dp_str, dp_unit, dp_list, dp_tup, dp_pair, dp_t3, f1_neg, f1_abs, f1_int, f2_add, f2_sub, f2_lt, f2_le, f2_gt, f2_ge, f2_mn2, f2_mx2, augD_add, augD_sub, f1_all, f1_any, f1_sum, f2_in_list, f2_notin_list, f2_in_tup, f2_notin_tup, f2_eq, f2_ne, f2_in_dict, f2_notin_dict, f2_ix_dict, f3_get, pre2_get, pre3_get, preM_append, preM_pop, preM_extend, preM_set, preM_addI, preM_popK, preM_update, fM_pop, fM_popK, he, ha, hx, hg]
theorem first_b1 (line : List (Tup Cell)) (j3 j4 j7 : Sl) (x : Int) (hl : line.length ≤ 1000) (ho : ∀ o ∈ line, o.items.length ≤ 100) : ∃ k4 k7 : Sl,
    (bindT [.fz (Datum.toD rows), .fz (Datum.toD cells), .fz (Datum.toD line), j3, j4, .emp, .emp, j7] (.nm 3) (Datum.toD x)).bind (fun env => execB cons (R n) b_law_first_1 env) = match line.find? (hitsAll rows) with
      | some own => some (.rt (.fz (Datum.toD own)), [.fz (Datum.toD rows), .fz (Datum.toD cells), .fz (Datum.toD line), .fz (Datum.toD x), k4, .emp, .emp, k7])
      | none => some (.nx, [.fz (Datum.toD rows), .fz (Datum.toD cells), .fz (Datum.toD (line.flatMap (nextOf cells))), .fz (Datum.toD x), k4, .emp, .emp, k7]) := by
  obtain ⟨j', h4⟩ := forLoop_find (body := fun env => execB cons (R n) b_law_first_2 env) (tg := .nm 4) (S := fun j => [.fz (Datum.toD rows), .fz (Datum.toD cells), .fz (Datum.toD line), .fz (Datum.toD x), j, .emp, .emp, j7]) (p := hitsAll rows) (v := fun own => .fz (Datum.toD own)) (xs := line) j4 (fun own _ j => first_b2 n rows cells h1 h2 _ _ _ own j)
  cases hf : line.find? (hitsAll rows) with
  | some own =>
    rw [hf] at h4
    refine ⟨j', j7, ?_⟩
    simp only at h4
    simp [b_law_first_1, -Option.map_eq_some_iff, -List.map_map, -Option.bind_some, -Option.map_some, obind_some, omap_some, ex_fn, ev_cst, ev_glb, ev_rd, ev_p1, ev_p2, ev_p3, ev_chain, ev_and, ev_or, ev_not, ev_ite, ev_tup, ev_lst, ev_call, ev_mut, ev_oex, ev_opk, ev_peek, ev_snil, ev_scons, ev_anil, ev_aex, ev_abw, ev_cnil, ev_ccons, ev_iex, ev_irng, ev_izip, ev_ienum, ex_asg, ex_unp, ex_par, ex_aug, ex_expr, ex_mutS, ex_ret, ex_ifs, ex_pass, ex_nil, ex_cons, ev_ssnil, ev_sscons, st_lc, st_lc2, st_dc, obind_ite, omap_ite, bnd_ite, mp_ite, bnd_some, mp_some, takeAll, aget_val, aget_own, ownS_list, ownS_dD, nodupN, ownsOf, putBack, dat_fz, dat_ow, thaw_fz, thaw_ow, thaw_emp, get_val, get_at, pre2, owOk, P1.fresh, P2.fresh, P3.fresh, Sl.mk, wipeE, unwipe, ownFree_eq, notOw_fz, notOw_emp, notOw_none, notOw_nz, nz_some, nz_none, bindT_nm, bindT_raw, bindT_pair, bindT_t3, bindT_t4, store, storeS, lcL_nil, lcL_cons, lcPut_some, lcPut_none, f2_eq_nil, f2_ne_nil, int_fold, bool_fold, str_fold, dp_int, dp_bool, dp_str, dp_unit, dp_list, dp_tup, dp_pair, dp_t3, f1_neg, f1_abs, f1_int, f2_add, f2_sub, f2_lt, f2_le, f2_gt, f2_ge, f2_mn2, f2_mx2, augD_add, augD_sub, f1_all, f1_any, f1_sum, f2_in_list, f2_notin_list, f2_in_tup, f2_notin_tup, f2_eq, f2_ne, f2_in_dict, f2_notin_dict, f2_ix_dict, f3_get, pre2_get, pre3_get, preM_append, preM_pop, preM_extend, preM_set, preM_addI, preM_popK, preM_update, fM_pop, fM_popK, l_law_first_2, ex_for, h4]
  | none =>
    rw [hf] at h4
    simp only at h4
    obtain ⟨j5, h5⟩ := forLoop_app (body := fun env => execB cons (R n) b_law_first_5 env) (tg := .nm 4) (S := fun (later : List (Tup Cell)) (j : Sl) => [.fz (Datum.toD rows), .fz (Datum.toD cells), .fz (Datum.toD line), .fz (Datum.toD x), j, .emp, .emp, .fz (Datum.toD later)]) (g := nextOf cells) (m := 1000) (B := SL) line [] j'
      (fun o _ => by unfold nextOf; rw [List.length_map]; exact Nat.le_trans (List.length_filter_le _ _) h3)
      (fun o hm later j hB => by
        have e6 := first_6 n rows cells h3 (.fz (Datum.toD line)) (.fz (Datum.toD x)) o later (ho o hm)
        have ha := f2_add_list later (nextOf cells o) (by have : (nextOf cells o).length ≤ 1000 := by { unfold nextOf; rw [List.length_map]; exact Nat.le_trans (List.length_filter_le _ _) h3 }; omega)
        exact ⟨.fz (Datum.toD o), by simp [b_law_first_5, -Option.map_eq_some_iff, -List.map_map, -Option.bind_some, -Option.map_some, obind_some, omap_some, ex_fn, ev_cst, ev_glb, ev_rd, ev_p1, ev_p2, ev_p3, ev_chain, ev_and, ev_or, ev_not, ev_ite, ev_tup, ev_lst, ev_call, ev_mut, ev_oex, ev_opk, ev_peek, ev_snil, ev_scons, ev_anil, ev_aex, ev_abw, ev_cnil, ev_ccons, ev_iex, ev_irng, ev_izip, ev_ienum, ex_asg, ex_unp, ex_par, ex_aug, ex_expr, ex_mutS, ex_ret, ex_ifs, ex_pass, ex_nil, ex_cons, ev_ssnil, ev_sscons, st_lc, st_lc2, st_dc, obind_ite, omap_ite, bnd_ite, mp_ite, bnd_some, mp_some, takeAll, aget_val, aget_own, ownS_list, ownS_dD, nodupN, ownsOf, putBack, dat_fz, dat_ow, thaw_fz, thaw_ow, thaw_emp, get_val, get_at, pre2, owOk, P1.fresh, P2.fresh, P3.fresh, Sl.mk, wipeE, unwipe, ownFree_eq, notOw_fz, notOw_emp, notOw_none, notOw_nz, nz_some, nz_none, bindT_nm, bindT_raw, bindT_pair, bindT_t3, bindT_t4, store, storeS, lcL_nil, lcL_cons, lcPut_some, lcPut_none, f2_eq_nil, f2_ne_nil, int_fold, bool_fold, str_fold, dp_int, dp_bool, dp_str, dp_unit, dp_list, dp_tup, dp_pair, dp_t3, f1_neg, f1_abs, f1_int, f2_add, f2_sub, f2_lt, f2_le, f2_gt, f2_ge, f2_mn2, f2_mx2, augD_add, augD_sub, f1_all, f1_any, f1_sum, f2_in_list, f2_notin_list, f2_in_tup, f2_notin_tup, f2_eq, f2_ne, f2_in_dict, f2_notin_dict, f2_ix_dict, f3_get, pre2_get, pre3_get, preM_append, preM_pop, preM_extend, preM_set, preM_addI, preM_popK, preM_update, fM_pop, fM_popK, e6, ha]⟩)
      (by unfold SL; simp; omega)
    simp only [toD_nil, List.nil_append] at h5
    refine ⟨j5, .fz (Datum.toD (line.flatMap (nextOf cells))), ?_⟩
    simp [b_law_first_1, -Option.map_eq_some_iff, -List.map_map, -Option.bind_some, -Option.map_some, obind_some, omap_some, ex_fn, ev_cst, ev_glb, ev_rd, ev_p1, ev_p2, ev_p3, ev_chain, ev_and, ev_or, ev_not, ev_ite, ev_tup, ev_lst, ev_call, ev_mut, ev_oex, ev_opk, ev_peek, ev_snil, ev_scons, ev_anil, ev_aex, ev_abw, ev_cnil, ev_ccons, ev_iex, ev_irng, ev_izip, ev_ienum, ex_asg, ex_unp, ex_par, ex_aug, ex_expr, ex_mutS, ex_ret, ex_ifs, ex_pass, ex_nil, ex_cons, ev_ssnil, ev_sscons, st_lc, st_lc2, st_dc, obind_ite, omap_ite, bnd_ite, mp_ite, bnd_some, mp_some, takeAll, aget_val, aget_own, ownS_list, ownS_dD, nodupN, ownsOf, putBack, dat_fz, dat_ow, thaw_fz, thaw_ow, thaw_emp, get_val, get_at, pre2, owOk, P1.fresh, P2.fresh, P3.fresh, Sl.mk, wipeE, unwipe, ownFree_eq, notOw_fz, notOw_emp, notOw_none, notOw_nz, nz_some, nz_none, bindT_nm, bindT_raw, bindT_pair, bindT_t3, bindT_t4, store, storeS, lcL_nil, lcL_cons, lcPut_some, lcPut_none, f2_eq_nil, f2_ne_nil, int_fold, bool_fold, str_fold, dp_int, dp_bool, dp_str, dp_unit, dp_list, dp_tup, dp_pair, dp_t3, f1_neg, f1_abs, f1_int, f2_add, f2_sub, f2_lt, f2_le, f2_gt, f2_ge, f2_mn2, f2_mx2, augD_add, augD_sub, f1_all, f1_any, f1_sum, f2_in_list, f2_notin_list, f2_in_tup, f2_notin_tup, f2_eq, f2_ne, f2_in_dict, f2_notin_dict, f2_ix_dict, f3_get, pre2_get, pre3_get, preM_append, preM_pop, preM_extend, preM_set, preM_addI, preM_popK, preM_update, fM_pop, fM_popK, l_law_first_2, l_law_first_5, ex_for, h4, h5]
theorem first_loop : ∀ (xs : List Int) (line : List (Tup Cell)) (own : Tup Cell) (j3 j4 j7 : Sl), line.length ≤ 1000 → (∀ o ∈ line, o.items.length ≤ 100) → firstT rows cells xs.length line = some own → ∃ rest, forLoop (fun env => execB cons (R n) b_law_first_1 env) (.nm 3) (xs.map Datum.toD) [.fz (Datum.toD rows), .fz (Datum.toD cells), .fz (Datum.toD line), j3, j4, .emp, .emp, j7] = some (.rt (.fz (Datum.toD own)), .fz (Datum.toD rows) :: .fz (Datum.toD cells) :: rest)
  | [], _, _, _, _, _, _, _, h => by cases h
  | x :: xs, line, own, j3, j4, j7, hl, ho, h => by
    obtain ⟨k4, k7, hb⟩ := first_b1 n rows cells h1 h2 h3 line j3 j4 j7 x hl ho
    have e : forLoop (fun env => execB cons (R n) b_law_first_1 env) (.nm 3) ((x :: xs).map Datum.toD) [.fz (Datum.toD rows), .fz (Datum.toD cells), .fz (Datum.toD line), j3, j4, .emp, .emp, j7] = ((bindT [.fz (Datum.toD rows), .fz (Datum.toD cells), .fz (Datum.toD line), j3, j4, .emp, .emp, j7] (.nm 3) (Datum.toD x)).bind (fun env => execB cons (R n) b_law_first_1 env)).bind fun p => match p.1 with
      | .nx => forLoop (fun env => execB cons (R n) b_law_first_1 env) (.nm 3) (xs.map Datum.toD) p.2
      | .rt s => some (.rt s, p.2) := rfl
    rw [e, hb]
    rw [List.length_cons] at h
    unfold firstT at h
    cases hf : line.find? (hitsAll rows) with
    | some o =>
      rw [hf] at h
      have : o = own := Option.some.inj h
      subst this
      exact ⟨_, rfl⟩
    | none =>
      rw [hf] at h
      simp only at h
      split at h
      · rename_i hc
        exact first_loop xs _ own _ _ _ hc.1 (fun o hm => of_decide_eq_true (List.all_eq_true.mp hc.2 o hm)) h
      · cases h
end

theorem r_law_first (n : Nat) (rows : List (Tup Cell)) (cells : Own) (own : Tup Cell) (h1 : rows.length ≤ 100000) (h2 : ∀ r ∈ rows, r.items.length ≤ 100) (h3 : cells.length ≤ 900) (h : firstT rows cells (cells.length + 1) [Tup.mk []] = some own) : R (n + 1) 29 [.fz (Datum.toD rows), .fz (Datum.toD cells)] = some (.fz (Datum.toD own), [.fz (Datum.toD rows), .fz (Datum.toD cells)]) := by
  have fl : fits62 ((cells.length : Int) + 1) = true := fits62_of (by omega) (by omega)
  have hx : (rangeT 0 ((cells.length : Int) + 1)).length = cells.length + 1 := by rw [length_rangeT]; omega
  obtain ⟨rest, hf⟩ := first_loop n rows cells h1 h2 (by omega) (rangeT 0 ((cells.length : Int) + 1)) [Tup.mk []] own .emp .emp .emp (by simp) (by simp) (by rw [hx]; exact h)
  have hm : mkL [.tuple []] = some (Datum.toD [(Tup.mk [] : Tup Cell)]) := rfl
  simp [R_law_first, c_law_first, -Option.map_eq_some_iff, -List.map_map, -Option.bind_some, -Option.map_some, obind_some, omap_some, ex_fn, ev_cst, ev_glb, ev_rd, ev_p1, ev_p2, ev_p3, ev_chain, ev_and, ev_or, ev_not, ev_ite, ev_tup, ev_lst, ev_call, ev_mut, ev_oex, ev_opk, ev_peek, ev_snil, ev_scons, ev_anil, ev_aex, ev_abw, ev_cnil, ev_ccons, ev_iex, ev_irng, ev_izip, ev_ienum, ex_asg, ex_unp, ex_par, ex_aug, ex_expr, ex_mutS, ex_ret, ex_ifs, ex_pass, ex_nil, ex_cons, ev_ssnil, ev_sscons, st_lc, st_lc2, st_dc, obind_ite, omap_ite, bnd_ite, mp_ite, bnd_some, mp_some, takeAll, aget_val, aget_own, ownS_list, ownS_dD, nodupN, ownsOf, putBack, dat_fz, dat_ow, thaw_fz, thaw_ow, thaw_emp, get_val, get_at, pre2, owOk, P1.fresh, P2.fresh, P3.fresh, Sl.mk, wipeE, unwipe, ownFree_eq, notOw_fz, notOw_emp, notOw_none, notOw_nz, nz_some, nz_none, bindT_nm, bindT_raw, bindT_pair, bindT_t3, bindT_t4, store, storeS, lcL_nil, lcL_cons, lcPut_some, lcPut_none, f2_eq_nil, f2_ne_nil, int_fold, bool_fold, str_fold, dp_int, dp_bool, dp_str, dp_unit, dp_list, dp_tup, dp_pair, dp_t3, f1_neg, f1_abs, f1_int, f2_add, f2_sub, f2_lt, f2_le, f2_gt, f2_ge, f2_mn2, f2_mx2, augD_add, augD_sub, f1_all, f1_any, f1_sum, f2_in_list, f2_notin_list, f2_in_tup, f2_notin_tup, f2_eq, f2_ne, f2_in_dict, f2_notin_dict, f2_ix_dict, f3_get, pre2_get, pre3_get, preM_append, preM_pop, preM_extend, preM_set, preM_addI, preM_popK, preM_update, fM_pop, fM_popK, hm, l_law_first_1, ex_for, rangeOf_1, fl, hf]

end G94
end

section
set_option maxRecDepth 100000
set_option linter.all false
namespace G94
open Ky PySem PySem.W
def boxes94 : List Cell := [⟨1, 2, 2⟩, ⟨2, 1, 3⟩, ⟨1, 3, 3⟩, ⟨2, 2, 2⟩, ⟨1, 1, 6⟩, ⟨3, 1, 2⟩, ⟨2, 2, 1⟩, ⟨1, 4, 2⟩]
def fewOf (s : Cell) (l : Int) : Option Own := fewT 14 [([], rows0 s l)]
def chkBox (s : Cell) : Bool := okS s && decide (s.a * s.b * s.c ≤ 12)
def chk1 (s : Cell) (l : Int) : Bool :=
  chkBox s && chkBox ⟨s.c, s.b, s.a⟩ && risingB (rows0 s l) && risingB (rows0 ⟨s.c, s.b, s.a⟩ l) &&
  match fewOf s l, fewOf ⟨s.c, s.b, s.a⟩ l, firstT (rows0 s l) (cellsIn s) ((cellsIn s).length + 1) [Tup.mk []] with
  | some r, some r2, some own => decide (own.items = r) && decide (r2.length = r.length) && decide ((mostOf s r).length = (cellsIn s).length - r.length) && decide (r.length ≤ (cellsIn s).length) && marksOk s (mostOf s r) && marksOk s r &&
      ((rows0 s l).filter fun x => x.items.all fun c => decide (c ∈ mostOf s r)).isEmpty && (hitsIn (rows0 s l) r).isEmpty
  | _, _, _ => false
def firsts (m l : Int) : Own := ((rangeT 0 m).filter fun k => decide (k.fmod l = l - 1)).map fun k => ⟨k, 0, 0⟩
def chk2 (m l : Int) : Bool :=
  chkBox ⟨1, m, 1⟩ && chkBox ⟨m, 1, 1⟩ && risingB (rows0 ⟨1, m, 1⟩ l) && risingB (rows0 ⟨m, 1, 1⟩ l) &&
  match fewOf ⟨1, m, 1⟩ l, fewOf ⟨m, 1, 1⟩ l with
  | some r1, some r2 => decide ((r1.length : Int) = m.fdiv l) && decide (r2.length = (firsts m l).length) && !(DatumOrd.lt (Tup.mk (firsts m l)) (Tup.mk r2))
  | _, _ => false
theorem all1 : (boxes94.all fun s => [2, 3, 4, 5].all fun l => chk1 s l) = true := by decide +kernel
theorem all2 : (([1, 2, 3, 4, 5, 6] : List Int).all fun m => [2, 3, 4, 5, 6].all fun l => chk2 m l) = true := by decide +kernel
theorem all3 : (chkBox ⟨2, 2, 2⟩ && chkBox ⟨2, 1, 2⟩ && risingB (rows0 ⟨2, 2, 2⟩ 2) && risingB (rows0 ⟨2, 1, 2⟩ 2) && match fewOf ⟨2, 2, 2⟩ 2, fewOf ⟨2, 1, 2⟩ 2 with
  | some r1, some r2 => decide (r1.length = 7) && decide ((mostOf ⟨2, 1, 2⟩ r2).length = 1)
  | _, _ => false) = true := by decide +kernel

end G94
end

section
set_option maxRecDepth 100000
set_option linter.all false
namespace G94
open Ky PySem PySem.W
theorem and_t {a b : Bool} (h : (a && b) = true) : a = true ∧ b = true := by simpa using h
theorem chkBox_of {s : Cell} (h : chkBox s = true) : okS s = true ∧ s.a * s.b * s.c ≤ 12 := by
  obtain ⟨h1, h2⟩ := and_t h
  exact ⟨h1, of_decide_eq_true h2⟩
theorem rows_of_rising {s : Cell} {l : Int} (h : risingB (rows0 s l) = true) : rowsIn s l = rows0 s l := sortT_of_rising ((risingB_iff _).mp h)
theorem chk1_of {s : Cell} {l : Int} (h : chk1 s l = true) : ∃ r r2 : Own, ∃ k2 : Nat, (okS s = true ∧ s.a * s.b * s.c ≤ 12) ∧ (okS ⟨s.c, s.b, s.a⟩ = true ∧ (T3.mk s.c s.b s.a).a * (T3.mk s.c s.b s.a).b * (T3.mk s.c s.b s.a).c ≤ 12) ∧
    fewT 14 [([], rowsIn s l)] = some r ∧ fewT 14 [([], rowsIn ⟨s.c, s.b, s.a⟩ l)] = some r2 ∧ firstT (rowsIn s l) (cellsIn s) ((cellsIn s).length + 1) [Tup.mk []] = some (Tup.mk r) ∧ r2.length = r.length ∧ (mostOf s r).length = (cellsIn s).length - r.length ∧ r.length ≤ (cellsIn s).length ∧
    marksOk s (mostOf s r) = true ∧ marksOk s r = true ∧ fullIn s l (mostOf s r) = [] ∧ hitsIn (rowsIn s l) r = [] := by
  unfold chk1 at h
  obtain ⟨h, hm⟩ := and_t h
  obtain ⟨h, h4⟩ := and_t h
  obtain ⟨h, h3⟩ := and_t h
  obtain ⟨h1, h2⟩ := and_t h
  have e1 := rows_of_rising h3
  have e2 := rows_of_rising h4
  split at hm
  · rename_i r r2 own hr hr2 ho
    obtain ⟨hm, g8⟩ := and_t hm
    obtain ⟨hm, g7⟩ := and_t hm
    obtain ⟨hm, g6⟩ := and_t hm
    obtain ⟨hm, g5⟩ := and_t hm
    obtain ⟨hm, g4⟩ := and_t hm
    obtain ⟨hm, g3⟩ := and_t hm
    obtain ⟨g1, g2⟩ := and_t hm
    have g1 := of_decide_eq_true g1
    obtain ⟨own⟩ := own
    have g1 : own = r := g1
    subst g1
    refine ⟨own, r2, 0, chkBox_of h1, chkBox_of h2, by rw [e1]; exact hr, by rw [e2]; exact hr2, by rw [e1]; exact ho, of_decide_eq_true g2, of_decide_eq_true g3, of_decide_eq_true g4, g5, g6, ?_, ?_⟩
    · unfold fullIn; rw [e1]; exact List.isEmpty_iff.mp g7
    · rw [e1]; exact List.isEmpty_iff.mp g8
  · cases hm
theorem law_turn (n : Nat) (ns : List Int) (c : Cup) (e2 e3 e4 e5 e6 e7 e8 e9 : Sl) : ∃ (c' : Cup) (k3 k4 k5 k6 k7 k8 k9 : Sl), execB cons (R (n + 6)) b_law_1 [.fz (Datum.toD ns), .ow c.d, e2, e3, e4, e5, e6, e7, e8, e9, .emp, .emp, .emp] = some (.nx, [.fz (Datum.toD ns), .ow c'.d, e2, k3, k4, k5, k6, k7, k8, k9, .emp, .emp, .emp]) := by
  have hb : boxes94 ≠ [] := by decide
  have hp := pick_mem c boxes94 hb
  have hr := rollV_lt (rollC c 8) 4 (by decide)
  have hne : ([0, 1, rollV (rollC c 8) 4] : List Int) ≠ [] := by simp
  have hq := pick_mem (rollC (rollC c 8) 4) [0, 1, rollV (rollC c 8) 4] hne
  have q1 : execS cons (R (n + 6)) q_law_1_1 [.fz (Datum.toD ns), .ow c.d, e2, e3, e4, e5, e6, e7, e8, e9, .emp, .emp, .emp] = some (.nx, [.fz (Datum.toD ns), .ow (rollC c 8).d, e2, .fz (Datum.toD (pick c boxes94 hb)), e4, e5, e6, e7, e8, e9, .emp, .emp, .emp]) := by
    have hm : ∀ a b c d e f g h : Cell, mkL [Datum.toD a, Datum.toD b, Datum.toD c, Datum.toD d, Datum.toD e, Datum.toD f, Datum.toD g, Datum.toD h] = some (Datum.toD [a, b, c, d, e, f, g, h]) := fun a b c d e f g h => mkL_map [a, b, c, d, e, f, g, h] (by simp [SL])
    have hs := r_some_list (n + 4) c boxes94 hb (by decide)
    unfold boxes94 at hs ⊢
    simp [q_law_1_1, -Option.map_eq_some_iff, -List.map_map, -Option.bind_some, -Option.map_some, obind_some, omap_some, ex_fn, ev_cst, ev_glb, ev_rd, ev_p1, ev_p2, ev_p3, ev_chain, ev_and, ev_or, ev_not, ev_ite, ev_tup, ev_lst, ev_call, ev_mut, ev_oex, ev_opk, ev_peek, ev_snil, ev_scons, ev_anil, ev_aex, ev_abw, ev_cnil, ev_ccons, ev_iex, ev_irng, ev_izip, ev_ienum, ex_asg, ex_unp, ex_par, ex_aug, ex_expr, ex_mutS, ex_ret, ex_ifs, ex_pass, ex_nil, ex_cons, ev_ssnil, ev_sscons, st_lc, st_lc2, st_dc, obind_ite, omap_ite, bnd_ite, mp_ite, bnd_some, mp_some, takeAll, aget_val, aget_own, ownS_list, ownS_dD, nodupN, ownsOf, putBack, dat_fz, dat_ow, thaw_fz, thaw_ow, thaw_emp, get_val, get_at, pre2, owOk, P1.fresh, P2.fresh, P3.fresh, Sl.mk, wipeE, unwipe, ownFree_eq, notOw_fz, notOw_emp, notOw_none, notOw_nz, nz_some, nz_none, bindT_nm, bindT_raw, bindT_pair, bindT_t3, bindT_t4, store, storeS, lcL_nil, lcL_cons, lcPut_some, lcPut_none, f2_eq_nil, f2_ne_nil, int_fold, bool_fold, str_fold, dp_int, dp_bool, dp_str, dp_unit, dp_list, dp_tup, dp_pair, dp_t3, f1_neg, f1_abs, f1_int, f2_add, f2_sub, f2_lt, f2_le, f2_gt, f2_ge, f2_mn2, f2_mx2, augD_add, augD_sub, f1_all, f1_any, f1_sum, f2_in_list, f2_notin_list, f2_in_tup, f2_notin_tup, f2_eq, f2_ne, f2_in_dict, f2_notin_dict, f2_ix_dict, f3_get, pre2_get, pre3_get, preM_append, preM_pop, preM_extend, preM_set, preM_addI, preM_popK, preM_update, fM_pop, fM_popK, ownS_cup, hm]
    simp at hs
    simp [-Option.map_eq_some_iff, -List.map_map, -Option.bind_some, -Option.map_some, obind_some, omap_some, ex_fn, ev_cst, ev_glb, ev_rd, ev_p1, ev_p2, ev_p3, ev_chain, ev_and, ev_or, ev_not, ev_ite, ev_tup, ev_lst, ev_call, ev_mut, ev_oex, ev_opk, ev_peek, ev_snil, ev_scons, ev_anil, ev_aex, ev_abw, ev_cnil, ev_ccons, ev_iex, ev_irng, ev_izip, ev_ienum, ex_asg, ex_unp, ex_par, ex_aug, ex_expr, ex_mutS, ex_ret, ex_ifs, ex_pass, ex_nil, ex_cons, ev_ssnil, ev_sscons, st_lc, st_lc2, st_dc, obind_ite, omap_ite, bnd_ite, mp_ite, bnd_some, mp_some, takeAll, aget_val, aget_own, ownS_list, ownS_dD, nodupN, ownsOf, putBack, dat_fz, dat_ow, thaw_fz, thaw_ow, thaw_emp, get_val, get_at, pre2, owOk, P1.fresh, P2.fresh, P3.fresh, Sl.mk, wipeE, unwipe, ownFree_eq, notOw_fz, notOw_emp, notOw_none, notOw_nz, nz_some, nz_none, bindT_nm, bindT_raw, bindT_pair, bindT_t3, bindT_t4, store, storeS, lcL_nil, lcL_cons, lcPut_some, lcPut_none, f2_eq_nil, f2_ne_nil, int_fold, bool_fold, str_fold, dp_int, dp_bool, dp_str, dp_unit, dp_list, dp_tup, dp_pair, dp_t3, f1_neg, f1_abs, f1_int, f2_add, f2_sub, f2_lt, f2_le, f2_gt, f2_ge, f2_mn2, f2_mx2, augD_add, augD_sub, f1_all, f1_any, f1_sum, f2_in_list, f2_notin_list, f2_in_tup, f2_notin_tup, f2_eq, f2_ne, f2_in_dict, f2_notin_dict, f2_ix_dict, f3_get, pre2_get, pre3_get, preM_append, preM_pop, preM_extend, preM_set, preM_addI, preM_popK, preM_update, fM_pop, fM_popK, hs]
  obtain ⟨s, hs⟩ : ∃ s, s = pick c boxes94 hb := ⟨_, rfl⟩
  obtain ⟨P, hP⟩ : ∃ P : Int, P = pick (rollC (rollC c 8) 4) [0, 1, rollV (rollC c 8) 4] hne := ⟨_, rfl⟩
  obtain ⟨l, hl⟩ : ∃ l : Int, l = 2 + P := ⟨_, rfl⟩
  rw [← hs] at q1 hp
  rw [← hP] at hq
  have hl5 : l = 2 ∨ l = 3 ∨ l = 4 ∨ l = 5 := by
    simp only [List.mem_cons, List.not_mem_nil, or_false] at hq
    omega
  have hl2 : 2 ≤ l ∧ l ≤ 6 := by omega
  have q2 : execS cons (R (n + 6)) q_law_1_2 [.fz (Datum.toD ns), .ow (rollC c 8).d, e2, .fz (Datum.toD s), e4, e5, e6, e7, e8, e9, .emp, .emp, .emp] = some (.nx, [.fz (Datum.toD ns), .ow (rollC (rollC (rollC c 8) 4) 3).d, e2, .fz (Datum.toD s), .fz (Datum.toD l), e5, e6, e7, e8, e9, .emp, .emp, .emp]) := by
    rw [hl, hP]
    simp [q_law_1_2, -Option.map_eq_some_iff, -List.map_map, -Option.bind_some, -Option.map_some, obind_some, omap_some, ex_fn, ev_cst, ev_glb, ev_rd, ev_p1, ev_p2, ev_p3, ev_chain, ev_and, ev_or, ev_not, ev_ite, ev_tup, ev_lst, ev_call, ev_mut, ev_oex, ev_opk, ev_peek, ev_snil, ev_scons, ev_anil, ev_aex, ev_abw, ev_cnil, ev_ccons, ev_iex, ev_irng, ev_izip, ev_ienum, ex_asg, ex_unp, ex_par, ex_aug, ex_expr, ex_mutS, ex_ret, ex_ifs, ex_pass, ex_nil, ex_cons, ev_ssnil, ev_sscons, st_lc, st_lc2, st_dc, obind_ite, omap_ite, bnd_ite, mp_ite, bnd_some, mp_some, takeAll, aget_val, aget_own, ownS_list, ownS_dD, nodupN, ownsOf, putBack, dat_fz, dat_ow, thaw_fz, thaw_ow, thaw_emp, get_val, get_at, pre2, owOk, P1.fresh, P2.fresh, P3.fresh, Sl.mk, wipeE, unwipe, ownFree_eq, notOw_fz, notOw_emp, notOw_none, notOw_nz, nz_some, nz_none, bindT_nm, bindT_raw, bindT_pair, bindT_t3, bindT_t4, store, storeS, lcL_nil, lcL_cons, lcPut_some, lcPut_none, f2_eq_nil, f2_ne_nil, int_fold, bool_fold, str_fold, dp_int, dp_bool, dp_str, dp_unit, dp_list, dp_tup, dp_pair, dp_t3, f1_neg, f1_abs, f1_int, f2_add, f2_sub, f2_lt, f2_le, f2_gt, f2_ge, f2_mn2, f2_mx2, augD_add, augD_sub, f1_all, f1_any, f1_sum, f2_in_list, f2_notin_list, f2_in_tup, f2_notin_tup, f2_eq, f2_ne, f2_in_dict, f2_notin_dict, f2_ix_dict, f3_get, pre2_get, pre3_get, preM_append, preM_pop, preM_extend, preM_set, preM_addI, preM_popK, preM_update, fM_pop, fM_popK, ownS_cup, r_roll, r_some_list]
  generalize rollC (rollC (rollC c 8) 4) 3 = c3 at q2
  have hchk : chk1 s l = true := by
    have := List.all_eq_true.mp all1 s hp
    exact List.all_eq_true.mp this l (by simp only [List.mem_cons, List.not_mem_nil, or_false]; exact hl5)
  obtain ⟨r, r2, _, ⟨hS, hv⟩, ⟨hS2, hv2⟩, hr1, hr2, hf, hlen2, hmost, hle, hm1, hm2, hfull, hopen⟩ := chk1_of hchk
  clear hs hl hP hq hl5
  have hrl : (rowsIn s l).length ≤ 100000 := by unfold rowsIn; rw [length_sortT]; exact Nat.le_trans (rows0_len s l hS) (by decide)
  have hcl := (len_cells_le hS).2
  have q3 : execS cons (R (n + 6)) q_law_1_3 [.fz (Datum.toD ns), .ow c3.d, e2, .fz (Datum.toD s), .fz (Datum.toD l), e5, e6, e7, e8, e9, .emp, .emp, .emp] = some (.nx, [.fz (Datum.toD ns), .ow c3.d, e2, .fz (Datum.toD s), .fz (Datum.toD l), .fz (Datum.toD (rowsIn s l)), .fz (Datum.toD (cellsIn s)), e7, e8, e9, .emp, .emp, .emp]) := by
    simp [q_law_1_3, -Option.map_eq_some_iff, -List.map_map, -Option.bind_some, -Option.map_some, obind_some, omap_some, ex_fn, ev_cst, ev_glb, ev_rd, ev_p1, ev_p2, ev_p3, ev_chain, ev_and, ev_or, ev_not, ev_ite, ev_tup, ev_lst, ev_call, ev_mut, ev_oex, ev_opk, ev_peek, ev_snil, ev_scons, ev_anil, ev_aex, ev_abw, ev_cnil, ev_ccons, ev_iex, ev_irng, ev_izip, ev_ienum, ex_asg, ex_unp, ex_par, ex_aug, ex_expr, ex_mutS, ex_ret, ex_ifs, ex_pass, ex_nil, ex_cons, ev_ssnil, ev_sscons, st_lc, st_lc2, st_dc, obind_ite, omap_ite, bnd_ite, mp_ite, bnd_some, mp_some, takeAll, aget_val, aget_own, ownS_list, ownS_dD, nodupN, ownsOf, putBack, dat_fz, dat_ow, thaw_fz, thaw_ow, thaw_emp, get_val, get_at, pre2, owOk, P1.fresh, P2.fresh, P3.fresh, Sl.mk, wipeE, unwipe, ownFree_eq, notOw_fz, notOw_emp, notOw_none, notOw_nz, nz_some, nz_none, bindT_nm, bindT_raw, bindT_pair, bindT_t3, bindT_t4, store, storeS, lcL_nil, lcL_cons, lcPut_some, lcPut_none, f2_eq_nil, f2_ne_nil, int_fold, bool_fold, str_fold, dp_int, dp_bool, dp_str, dp_unit, dp_list, dp_tup, dp_pair, dp_t3, f1_neg, f1_abs, f1_int, f2_add, f2_sub, f2_lt, f2_le, f2_gt, f2_ge, f2_mn2, f2_mx2, augD_add, augD_sub, f1_all, f1_any, f1_sum, f2_in_list, f2_notin_list, f2_in_tup, f2_notin_tup, f2_eq, f2_ne, f2_in_dict, f2_notin_dict, f2_ix_dict, f3_get, pre2_get, pre3_get, preM_append, preM_pop, preM_extend, preM_set, preM_addI, preM_popK, preM_update, fM_pop, fM_popK, r_law_rows, r_law_cells, hS, hl2]
  have q4 : execS cons (R (n + 6)) q_law_1_4 [.fz (Datum.toD ns), .ow c3.d, e2, .fz (Datum.toD s), .fz (Datum.toD l), .fz (Datum.toD (rowsIn s l)), .fz (Datum.toD (cellsIn s)), e7, e8, e9, .emp, .emp, .emp] = some (.nx, [.fz (Datum.toD ns), .ow c3.d, e2, .fz (Datum.toD s), .fz (Datum.toD l), .fz (Datum.toD (rowsIn s l)), .fz (Datum.toD (cellsIn s)), .fz (Datum.toD (Tup.mk r)), e8, e9, .emp, .emp, .emp]) := by
    have hc := r_law_first (n + 5) (rowsIn s l) (cellsIn s) (Tup.mk r) hrl (fun x hx => by rw [(rows_nodup hx).2]; omega) (by omega) hf
    simp [q_law_1_4, -Option.map_eq_some_iff, -List.map_map, -Option.bind_some, -Option.map_some, obind_some, omap_some, ex_fn, ev_cst, ev_glb, ev_rd, ev_p1, ev_p2, ev_p3, ev_chain, ev_and, ev_or, ev_not, ev_ite, ev_tup, ev_lst, ev_call, ev_mut, ev_oex, ev_opk, ev_peek, ev_snil, ev_scons, ev_anil, ev_aex, ev_abw, ev_cnil, ev_ccons, ev_iex, ev_irng, ev_izip, ev_ienum, ex_asg, ex_unp, ex_par, ex_aug, ex_expr, ex_mutS, ex_ret, ex_ifs, ex_pass, ex_nil, ex_cons, ev_ssnil, ev_sscons, st_lc, st_lc2, st_dc, obind_ite, omap_ite, bnd_ite, mp_ite, bnd_some, mp_some, takeAll, aget_val, aget_own, ownS_list, ownS_dD, nodupN, ownsOf, putBack, dat_fz, dat_ow, thaw_fz, thaw_ow, thaw_emp, get_val, get_at, pre2, owOk, P1.fresh, P2.fresh, P3.fresh, Sl.mk, wipeE, unwipe, ownFree_eq, notOw_fz, notOw_emp, notOw_none, notOw_nz, nz_some, nz_none, bindT_nm, bindT_raw, bindT_pair, bindT_t3, bindT_t4, store, storeS, lcL_nil, lcL_cons, lcPut_some, lcPut_none, f2_eq_nil, f2_ne_nil, int_fold, bool_fold, str_fold, dp_int, dp_bool, dp_str, dp_unit, dp_list, dp_tup, dp_pair, dp_t3, f1_neg, f1_abs, f1_int, f2_add, f2_sub, f2_lt, f2_le, f2_gt, f2_ge, f2_mn2, f2_mx2, augD_add, augD_sub, f1_all, f1_any, f1_sum, f2_in_list, f2_notin_list, f2_in_tup, f2_notin_tup, f2_eq, f2_ne, f2_in_dict, f2_notin_dict, f2_ix_dict, f3_get, pre2_get, pre3_get, preM_append, preM_pop, preM_extend, preM_set, preM_addI, preM_popK, preM_update, fM_pop, fM_popK, hc]
  have q5 : execS cons (R (n + 6)) q_law_1_5 [.fz (Datum.toD ns), .ow c3.d, e2, .fz (Datum.toD s), .fz (Datum.toD l), .fz (Datum.toD (rowsIn s l)), .fz (Datum.toD (cellsIn s)), .fz (Datum.toD (Tup.mk r)), e8, e9, .emp, .emp, .emp] = some (.nx, [.fz (Datum.toD ns), .ow c3.d, e2, .fz (Datum.toD s), .fz (Datum.toD l), .fz (Datum.toD (rowsIn s l)), .fz (Datum.toD (cellsIn s)), .fz (Datum.toD (Tup.mk r)), .fz (Datum.toD (T3.mk (r.length : Int) (Tup.mk r) ((cellsIn s).length - r.length : Int))), e9, .emp, .emp, .emp]) := by
    have a1 := r_fewest_meeting (n + 1) 14 s l r hS hl2 hv (by omega) hr1
    have a2 := r_first_meeting (n + 1) 14 s l r hS hl2 hv (by omega) hr1
    have a3 := r_most_marks (n + 1) 14 s l r hS hl2 hv (by omega) hr1
    rw [show ((mostOf s r).length : Int) = ((cellsIn s).length : Int) - (r.length : Int) by omega] at a3
    simp [q_law_1_5, -Option.map_eq_some_iff, -List.map_map, -Option.bind_some, -Option.map_some, obind_some, omap_some, ex_fn, ev_cst, ev_glb, ev_rd, ev_p1, ev_p2, ev_p3, ev_chain, ev_and, ev_or, ev_not, ev_ite, ev_tup, ev_lst, ev_call, ev_mut, ev_oex, ev_opk, ev_peek, ev_snil, ev_scons, ev_anil, ev_aex, ev_abw, ev_cnil, ev_ccons, ev_iex, ev_irng, ev_izip, ev_ienum, ex_asg, ex_unp, ex_par, ex_aug, ex_expr, ex_mutS, ex_ret, ex_ifs, ex_pass, ex_nil, ex_cons, ev_ssnil, ev_sscons, st_lc, st_lc2, st_dc, obind_ite, omap_ite, bnd_ite, mp_ite, bnd_some, mp_some, takeAll, aget_val, aget_own, ownS_list, ownS_dD, nodupN, ownsOf, putBack, dat_fz, dat_ow, thaw_fz, thaw_ow, thaw_emp, get_val, get_at, pre2, owOk, P1.fresh, P2.fresh, P3.fresh, Sl.mk, wipeE, unwipe, ownFree_eq, notOw_fz, notOw_emp, notOw_none, notOw_nz, nz_some, nz_none, bindT_nm, bindT_raw, bindT_pair, bindT_t3, bindT_t4, store, storeS, lcL_nil, lcL_cons, lcPut_some, lcPut_none, f2_eq_nil, f2_ne_nil, int_fold, bool_fold, str_fold, dp_int, dp_bool, dp_str, dp_unit, dp_list, dp_tup, dp_pair, dp_t3, f1_neg, f1_abs, f1_int, f2_add, f2_sub, f2_lt, f2_le, f2_gt, f2_ge, f2_mn2, f2_mx2, augD_add, augD_sub, f1_all, f1_any, f1_sum, f2_in_list, f2_notin_list, f2_in_tup, f2_notin_tup, f2_eq, f2_ne, f2_in_dict, f2_notin_dict, f2_ix_dict, f3_get, pre2_get, pre3_get, preM_append, preM_pop, preM_extend, preM_set, preM_addI, preM_popK, preM_update, fM_pop, fM_popK, a1, a2, a3]
  have sm : sameOk (Datum.toD (Tup.mk r)) = true := same_tup _ (by unfold SL; omega) fun c _ => same_cell c
  have q6 : execS cons (R (n + 6)) q_law_1_6 [.fz (Datum.toD ns), .ow c3.d, e2, .fz (Datum.toD s), .fz (Datum.toD l), .fz (Datum.toD (rowsIn s l)), .fz (Datum.toD (cellsIn s)), .fz (Datum.toD (Tup.mk r)), .fz (Datum.toD (T3.mk (r.length : Int) (Tup.mk r) ((cellsIn s).length - r.length : Int))), e9, .emp, .emp, .emp] = some (.nx, [.fz (Datum.toD ns), .ow c3.d, e2, .fz (Datum.toD s), .fz (Datum.toD l), .fz (Datum.toD (rowsIn s l)), .fz (Datum.toD (cellsIn s)), .fz (Datum.toD (Tup.mk r)), .fz (Datum.toD (T3.mk (r.length : Int) (Tup.mk r) ((cellsIn s).length - r.length : Int))), e9, .emp, .emp, .emp]) := by
    have hsm : R (n + 6) 26 _ = _ := r_same (n + 1) 4 (T3.mk (r.length : Int) (Tup.mk r) ((cellsIn s).length - r.length : Int)) (by rw [same_t3, sm]; rfl) (by decide)
    simp [q_law_1_6, -Option.map_eq_some_iff, -List.map_map, -Option.bind_some, -Option.map_some, obind_some, omap_some, ex_fn, ev_cst, ev_glb, ev_rd, ev_p1, ev_p2, ev_p3, ev_chain, ev_and, ev_or, ev_not, ev_ite, ev_tup, ev_lst, ev_call, ev_mut, ev_oex, ev_opk, ev_peek, ev_snil, ev_scons, ev_anil, ev_aex, ev_abw, ev_cnil, ev_ccons, ev_iex, ev_irng, ev_izip, ev_ienum, ex_asg, ex_unp, ex_par, ex_aug, ex_expr, ex_mutS, ex_ret, ex_ifs, ex_pass, ex_nil, ex_cons, ev_ssnil, ev_sscons, st_lc, st_lc2, st_dc, obind_ite, omap_ite, bnd_ite, mp_ite, bnd_some, mp_some, takeAll, aget_val, aget_own, ownS_list, ownS_dD, nodupN, ownsOf, putBack, dat_fz, dat_ow, thaw_fz, thaw_ow, thaw_emp, get_val, get_at, pre2, owOk, P1.fresh, P2.fresh, P3.fresh, Sl.mk, wipeE, unwipe, ownFree_eq, notOw_fz, notOw_emp, notOw_none, notOw_nz, nz_some, nz_none, bindT_nm, bindT_raw, bindT_pair, bindT_t3, bindT_t4, store, storeS, lcL_nil, lcL_cons, lcPut_some, lcPut_none, f2_eq_nil, f2_ne_nil, int_fold, bool_fold, str_fold, dp_int, dp_bool, dp_str, dp_unit, dp_list, dp_tup, dp_pair, dp_t3, f1_neg, f1_abs, f1_int, f2_add, f2_sub, f2_lt, f2_le, f2_gt, f2_ge, f2_mn2, f2_mx2, augD_add, augD_sub, f1_all, f1_any, f1_sum, f2_in_list, f2_notin_list, f2_in_tup, f2_notin_tup, f2_eq, f2_ne, f2_in_dict, f2_notin_dict, f2_ix_dict, f3_get, pre2_get, pre3_get, preM_append, preM_pop, preM_extend, preM_set, preM_addI, preM_popK, preM_update, fM_pop, fM_popK, hsm]
  have q7 : execS cons (R (n + 6)) q_law_1_7 [.fz (Datum.toD ns), .ow c3.d, e2, .fz (Datum.toD s), .fz (Datum.toD l), .fz (Datum.toD (rowsIn s l)), .fz (Datum.toD (cellsIn s)), .fz (Datum.toD (Tup.mk r)), .fz (Datum.toD (T3.mk (r.length : Int) (Tup.mk r) ((cellsIn s).length - r.length : Int))), e9, .emp, .emp, .emp] = some (.nx, [.fz (Datum.toD ns), .ow c3.d, e2, .fz (Datum.toD s), .fz (Datum.toD l), .fz (Datum.toD (rowsIn s l)), .fz (Datum.toD (cellsIn s)), .fz (Datum.toD (Tup.mk r)), .fz (Datum.toD (T3.mk (r.length : Int) (Tup.mk r) ((cellsIn s).length - r.length : Int))), .fz (Datum.toD (Tup.mk (mostOf s r))), .emp, .emp, .emp]) := by
    have a1 := r_some_marks (n + 1) 14 s l r hS hl2 hv (by omega) hr1
    simp [q_law_1_7, -Option.map_eq_some_iff, -List.map_map, -Option.bind_some, -Option.map_some, obind_some, omap_some, ex_fn, ev_cst, ev_glb, ev_rd, ev_p1, ev_p2, ev_p3, ev_chain, ev_and, ev_or, ev_not, ev_ite, ev_tup, ev_lst, ev_call, ev_mut, ev_oex, ev_opk, ev_peek, ev_snil, ev_scons, ev_anil, ev_aex, ev_abw, ev_cnil, ev_ccons, ev_iex, ev_irng, ev_izip, ev_ienum, ex_asg, ex_unp, ex_par, ex_aug, ex_expr, ex_mutS, ex_ret, ex_ifs, ex_pass, ex_nil, ex_cons, ev_ssnil, ev_sscons, st_lc, st_lc2, st_dc, obind_ite, omap_ite, bnd_ite, mp_ite, bnd_some, mp_some, takeAll, aget_val, aget_own, ownS_list, ownS_dD, nodupN, ownsOf, putBack, dat_fz, dat_ow, thaw_fz, thaw_ow, thaw_emp, get_val, get_at, pre2, owOk, P1.fresh, P2.fresh, P3.fresh, Sl.mk, wipeE, unwipe, ownFree_eq, notOw_fz, notOw_emp, notOw_none, notOw_nz, nz_some, nz_none, bindT_nm, bindT_raw, bindT_pair, bindT_t3, bindT_t4, store, storeS, lcL_nil, lcL_cons, lcPut_some, lcPut_none, f2_eq_nil, f2_ne_nil, int_fold, bool_fold, str_fold, dp_int, dp_bool, dp_str, dp_unit, dp_list, dp_tup, dp_pair, dp_t3, f1_neg, f1_abs, f1_int, f2_add, f2_sub, f2_lt, f2_le, f2_gt, f2_ge, f2_mn2, f2_mx2, augD_add, augD_sub, f1_all, f1_any, f1_sum, f2_in_list, f2_notin_list, f2_in_tup, f2_notin_tup, f2_eq, f2_ne, f2_in_dict, f2_notin_dict, f2_ix_dict, f3_get, pre2_get, pre3_get, preM_append, preM_pop, preM_extend, preM_set, preM_addI, preM_popK, preM_update, fM_pop, fM_popK, a1]
  have ml : (mostOf s r).length ≤ 1000 := by omega
  have q8 : execS cons (R (n + 6)) q_law_1_8 [.fz (Datum.toD ns), .ow c3.d, e2, .fz (Datum.toD s), .fz (Datum.toD l), .fz (Datum.toD (rowsIn s l)), .fz (Datum.toD (cellsIn s)), .fz (Datum.toD (Tup.mk r)), .fz (Datum.toD (T3.mk (r.length : Int) (Tup.mk r) ((cellsIn s).length - r.length : Int))), .fz (Datum.toD (Tup.mk (mostOf s r))), .emp, .emp, .emp] = some (.nx, [.fz (Datum.toD ns), .ow c3.d, e2, .fz (Datum.toD s), .fz (Datum.toD l), .fz (Datum.toD (rowsIn s l)), .fz (Datum.toD (cellsIn s)), .fz (Datum.toD (Tup.mk r)), .fz (Datum.toD (T3.mk (r.length : Int) (Tup.mk r) ((cellsIn s).length - r.length : Int))), .fz (Datum.toD (Tup.mk (mostOf s r))), .emp, .emp, .emp]) := by
    have a1 := r_full_rows n s l (mostOf s r) hS hl2 (by omega) hm1
    rw [hfull] at a1
    have a2 := ne_tup_nil ([] : List (Tup Cell)) (by decide)
    have a3 : ((mostOf s r).length : Int) = ((cellsIn s).length : Int) - (r.length : Int) := by omega
    simp [q_law_1_8, -Option.map_eq_some_iff, -List.map_map, -Option.bind_some, -Option.map_some, obind_some, omap_some, ex_fn, ev_cst, ev_glb, ev_rd, ev_p1, ev_p2, ev_p3, ev_chain, ev_and, ev_or, ev_not, ev_ite, ev_tup, ev_lst, ev_call, ev_mut, ev_oex, ev_opk, ev_peek, ev_snil, ev_scons, ev_anil, ev_aex, ev_abw, ev_cnil, ev_ccons, ev_iex, ev_irng, ev_izip, ev_ienum, ex_asg, ex_unp, ex_par, ex_aug, ex_expr, ex_mutS, ex_ret, ex_ifs, ex_pass, ex_nil, ex_cons, ev_ssnil, ev_sscons, st_lc, st_lc2, st_dc, obind_ite, omap_ite, bnd_ite, mp_ite, bnd_some, mp_some, takeAll, aget_val, aget_own, ownS_list, ownS_dD, nodupN, ownsOf, putBack, dat_fz, dat_ow, thaw_fz, thaw_ow, thaw_emp, get_val, get_at, pre2, owOk, P1.fresh, P2.fresh, P3.fresh, Sl.mk, wipeE, unwipe, ownFree_eq, notOw_fz, notOw_emp, notOw_none, notOw_nz, nz_some, nz_none, bindT_nm, bindT_raw, bindT_pair, bindT_t3, bindT_t4, store, storeS, lcL_nil, lcL_cons, lcPut_some, lcPut_none, f2_eq_nil, f2_ne_nil, int_fold, bool_fold, str_fold, dp_int, dp_bool, dp_str, dp_unit, dp_list, dp_tup, dp_pair, dp_t3, f1_neg, f1_abs, f1_int, f2_add, f2_sub, f2_lt, f2_le, f2_gt, f2_ge, f2_mn2, f2_mx2, augD_add, augD_sub, f1_all, f1_any, f1_sum, f2_in_list, f2_notin_list, f2_in_tup, f2_notin_tup, f2_eq, f2_ne, f2_in_dict, f2_notin_dict, f2_ix_dict, f3_get, pre2_get, pre3_get, preM_append, preM_pop, preM_extend, preM_set, preM_addI, preM_popK, preM_update, fM_pop, fM_popK, a1, a2, a3]
  have q9 : execS cons (R (n + 6)) q_law_1_9 [.fz (Datum.toD ns), .ow c3.d, e2, .fz (Datum.toD s), .fz (Datum.toD l), .fz (Datum.toD (rowsIn s l)), .fz (Datum.toD (cellsIn s)), .fz (Datum.toD (Tup.mk r)), .fz (Datum.toD (T3.mk (r.length : Int) (Tup.mk r) ((cellsIn s).length - r.length : Int))), .fz (Datum.toD (Tup.mk (mostOf s r))), .emp, .emp, .emp] = some (.nx, [.fz (Datum.toD ns), .ow c3.d, e2, .fz (Datum.toD s), .fz (Datum.toD l), .fz (Datum.toD (rowsIn s l)), .fz (Datum.toD (cellsIn s)), .fz (Datum.toD (Tup.mk r)), .fz (Datum.toD (T3.mk (r.length : Int) (Tup.mk r) ((cellsIn s).length - r.length : Int))), .fz (Datum.toD (Tup.mk (mostOf s r))), .emp, .emp, .emp]) := by
    have a1 := r_open_rows n s l r hS hl2 (by omega) hm2
    rw [hopen] at a1
    have a2 := ne_tup_nil ([] : List (Tup Cell)) (by decide)
    have a3 := r_fewest_meeting (n + 1) 14 ⟨s.c, s.b, s.a⟩ l r2 hS2 hl2 hv2 (by omega) hr2
    rw [hlen2] at a3
    have hsm : R (n + 6) 26 _ = _ := r_same (n + 1) 4 (r.length : Int) rfl (by decide)
    simp [q_law_1_9, -Option.map_eq_some_iff, -List.map_map, -Option.bind_some, -Option.map_some, obind_some, omap_some, ex_fn, ev_cst, ev_glb, ev_rd, ev_p1, ev_p2, ev_p3, ev_chain, ev_and, ev_or, ev_not, ev_ite, ev_tup, ev_lst, ev_call, ev_mut, ev_oex, ev_opk, ev_peek, ev_snil, ev_scons, ev_anil, ev_aex, ev_abw, ev_cnil, ev_ccons, ev_iex, ev_irng, ev_izip, ev_ienum, ex_asg, ex_unp, ex_par, ex_aug, ex_expr, ex_mutS, ex_ret, ex_ifs, ex_pass, ex_nil, ex_cons, ev_ssnil, ev_sscons, st_lc, st_lc2, st_dc, obind_ite, omap_ite, bnd_ite, mp_ite, bnd_some, mp_some, takeAll, aget_val, aget_own, ownS_list, ownS_dD, nodupN, ownsOf, putBack, dat_fz, dat_ow, thaw_fz, thaw_ow, thaw_emp, get_val, get_at, pre2, owOk, P1.fresh, P2.fresh, P3.fresh, Sl.mk, wipeE, unwipe, ownFree_eq, notOw_fz, notOw_emp, notOw_none, notOw_nz, nz_some, nz_none, bindT_nm, bindT_raw, bindT_pair, bindT_t3, bindT_t4, store, storeS, lcL_nil, lcL_cons, lcPut_some, lcPut_none, f2_eq_nil, f2_ne_nil, int_fold, bool_fold, str_fold, dp_int, dp_bool, dp_str, dp_unit, dp_list, dp_tup, dp_pair, dp_t3, f1_neg, f1_abs, f1_int, f2_add, f2_sub, f2_lt, f2_le, f2_gt, f2_ge, f2_mn2, f2_mx2, augD_add, augD_sub, f1_all, f1_any, f1_sum, f2_in_list, f2_notin_list, f2_in_tup, f2_notin_tup, f2_eq, f2_ne, f2_in_dict, f2_notin_dict, f2_ix_dict, f3_get, pre2_get, pre3_get, preM_append, preM_pop, preM_extend, preM_set, preM_addI, preM_popK, preM_update, fM_pop, fM_popK, a1, a2, a3, hsm, f1_rev_t3]
  exact ⟨c3, _, _, _, _, _, _, _, by simp [b_law_1, -Option.map_eq_some_iff, -List.map_map, -Option.bind_some, -Option.map_some, obind_some, omap_some, ex_fn, ev_cst, ev_glb, ev_rd, ev_p1, ev_p2, ev_p3, ev_chain, ev_and, ev_or, ev_not, ev_ite, ev_tup, ev_lst, ev_call, ev_mut, ev_oex, ev_opk, ev_peek, ev_snil, ev_scons, ev_anil, ev_aex, ev_abw, ev_cnil, ev_ccons, ev_iex, ev_irng, ev_izip, ev_ienum, ex_asg, ex_unp, ex_par, ex_aug, ex_expr, ex_mutS, ex_ret, ex_ifs, ex_pass, ex_nil, ex_cons, ev_ssnil, ev_sscons, st_lc, st_lc2, st_dc, obind_ite, omap_ite, bnd_ite, mp_ite, bnd_some, mp_some, takeAll, aget_val, aget_own, ownS_list, ownS_dD, nodupN, ownsOf, putBack, dat_fz, dat_ow, thaw_fz, thaw_ow, thaw_emp, get_val, get_at, pre2, owOk, P1.fresh, P2.fresh, P3.fresh, Sl.mk, wipeE, unwipe, ownFree_eq, notOw_fz, notOw_emp, notOw_none, notOw_nz, nz_some, nz_none, bindT_nm, bindT_raw, bindT_pair, bindT_t3, bindT_t4, store, storeS, lcL_nil, lcL_cons, lcPut_some, lcPut_none, f2_eq_nil, f2_ne_nil, int_fold, bool_fold, str_fold, dp_int, dp_bool, dp_str, dp_unit, dp_list, dp_tup, dp_pair, dp_t3, f1_neg, f1_abs, f1_int, f2_add, f2_sub, f2_lt, f2_le, f2_gt, f2_ge, f2_mn2, f2_mx2, augD_add, augD_sub, f1_all, f1_any, f1_sum, f2_in_list, f2_notin_list, f2_in_tup, f2_notin_tup, f2_eq, f2_ne, f2_in_dict, f2_notin_dict, f2_ix_dict, f3_get, pre2_get, pre3_get, preM_append, preM_pop, preM_extend, preM_set, preM_addI, preM_popK, preM_update, fM_pop, fM_popK, q1, q2, q3, q4, q5, q6, q7, q8, q9]; exact ⟨rfl, rfl, rfl, rfl, rfl, rfl, rfl⟩⟩

end G94
end

section
set_option maxRecDepth 100000
set_option linter.all false
namespace G94
open Ky PySem PySem.W
theorem chk2_of {m l : Int} (h : chk2 m l = true) : ∃ r1 r2 : Own, (okS ⟨1, m, 1⟩ = true ∧ (T3.mk 1 m 1 : Cell).a * (T3.mk 1 m 1 : Cell).b * (T3.mk 1 m 1 : Cell).c ≤ 12) ∧ (okS ⟨m, 1, 1⟩ = true ∧ (T3.mk m 1 1 : Cell).a * (T3.mk m 1 1 : Cell).b * (T3.mk m 1 1 : Cell).c ≤ 12) ∧
    fewT 14 [([], rowsIn ⟨1, m, 1⟩ l)] = some r1 ∧ fewT 14 [([], rowsIn ⟨m, 1, 1⟩ l)] = some r2 ∧ (r1.length : Int) = m.fdiv l ∧ r2.length = (firsts m l).length ∧ DatumOrd.lt (Tup.mk (firsts m l)) (Tup.mk r2) = false := by
  unfold chk2 at h
  obtain ⟨h, hm⟩ := and_t h
  obtain ⟨h, h4⟩ := and_t h
  obtain ⟨h, h3⟩ := and_t h
  obtain ⟨h1, h2⟩ := and_t h
  have e1 := rows_of_rising h3
  have e2 := rows_of_rising h4
  split at hm
  · rename_i r1 r2 hr hr2
    obtain ⟨hm, g3⟩ := and_t hm
    obtain ⟨g1, g2⟩ := and_t hm
    refine ⟨r1, r2, chkBox_of h1, chkBox_of h2, by rw [e1]; exact hr, by rw [e2]; exact hr2, of_decide_eq_true g1, of_decide_eq_true g2, ?_⟩
    simpa using g3
  · cases hm
theorem chk3_of : ∃ r1 r2 : Own, (okS ⟨2, 2, 2⟩ = true ∧ (T3.mk 2 2 2 : Cell).a * (T3.mk 2 2 2 : Cell).b * (T3.mk 2 2 2 : Cell).c ≤ 12) ∧ (okS ⟨2, 1, 2⟩ = true ∧ (T3.mk 2 1 2 : Cell).a * (T3.mk 2 1 2 : Cell).b * (T3.mk 2 1 2 : Cell).c ≤ 12) ∧
    fewT 14 [([], rowsIn ⟨2, 2, 2⟩ 2)] = some r1 ∧ fewT 14 [([], rowsIn ⟨2, 1, 2⟩ 2)] = some r2 ∧ r1.length = 7 ∧ (mostOf ⟨2, 1, 2⟩ r2).length = 1 := by
  have h := all3
  obtain ⟨h, hm⟩ := and_t h
  obtain ⟨h, h4⟩ := and_t h
  obtain ⟨h, h3⟩ := and_t h
  obtain ⟨h1, h2⟩ := and_t h
  have e1 := rows_of_rising h3
  have e2 := rows_of_rising h4
  split at hm
  · rename_i r1 r2 hr hr2
    obtain ⟨g1, g2⟩ := and_t hm
    exact ⟨r1, r2, chkBox_of h1, chkBox_of h2, by rw [e1]; exact hr, by rw [e2]; exact hr2, of_decide_eq_true g1, of_decide_eq_true g2⟩
  · cases hm
theorem law_true (ns : List Int) (hn : ns.length ≤ 63) : ∃ ps, run cons fns 14 30 [.fz (.list (ns.map .int))] = some (.fz (.bool true), ps) := by
  obtain ⟨c0, h0⟩ := r_cup 12 ns hn
  obtain ⟨c1, j, h1, _⟩ := forLoop_R (body := fun env => execB cons (R 13) b_law_1 env) (tg := .nm 2) (S := fun (c : Cup) (j : Sl × Sl × Sl × Sl × Sl × Sl × Sl × Sl) => [.fz (Datum.toD ns), .ow c.d, j.1, j.2.1, j.2.2.1, j.2.2.2.1, j.2.2.2.2.1, j.2.2.2.2.2.1, j.2.2.2.2.2.2.1, j.2.2.2.2.2.2.2, .emp, .emp, .emp]) (fun _ _ => True)
    (fun x xs c j _ => by
      obtain ⟨c', k3, k4, k5, k6, k7, k8, k9, hc⟩ := law_turn 7 ns c (.fz (Datum.toD x)) j.2.1 j.2.2.1 j.2.2.2.1 j.2.2.2.2.1 j.2.2.2.2.2.1 j.2.2.2.2.2.2.1 j.2.2.2.2.2.2.2
      refine ⟨c', (.fz (Datum.toD x), k3, k4, k5, k6, k7, k8, k9), ?_, trivial⟩
      rw [bindT_nm, obind_some]
      exact hc) (rangeT 0 3) c0 (.emp, .emp, .emp, .emp, .emp, .emp, .emp, .emp) trivial
  have k1 := rollV_lt c1 5 (by decide)
  have k2 := rollV_lt (rollC c1 5) 6 (by decide)
  obtain ⟨l, hl⟩ : ∃ l : Int, l = 2 + rollV c1 5 := ⟨_, rfl⟩
  obtain ⟨m, hm⟩ : ∃ m : Int, m = 1 + rollV (rollC c1 5) 6 := ⟨_, rfl⟩
  have hl5 : l = 2 ∨ l = 3 ∨ l = 4 ∨ l = 5 ∨ l = 6 := by omega
  have hm6 : m = 1 ∨ m = 2 ∨ m = 3 ∨ m = 4 ∨ m = 5 ∨ m = 6 := by omega
  have hl2 : 2 ≤ l ∧ l ≤ 6 := by omega
  have e3 : ∀ (c : Cup) (b a4 a5 a6 a7 a8 a9 a3 : Sl), c = c1 → execS cons (R 13) s_law_3 [.fz (Datum.toD ns), .ow c.d, b, a3, a4, a5, a6, a7, a8, a9, .emp, .emp, .emp] = some (.nx, [.fz (Datum.toD ns), .ow (rollC (rollC c 5) 6).d, b, a3, .fz (Datum.toD l), a5, a6, a7, a8, a9, .fz (Datum.toD m), .emp, .emp]) := by
    rintro c b a4 a5 a6 a7 a8 a9 a3 rfl
    rw [hl, hm]
    simp [s_law_3, -Option.map_eq_some_iff, -List.map_map, -Option.bind_some, -Option.map_some, obind_some, omap_some, ex_fn, ev_cst, ev_glb, ev_rd, ev_p1, ev_p2, ev_p3, ev_chain, ev_and, ev_or, ev_not, ev_ite, ev_tup, ev_lst, ev_call, ev_mut, ev_oex, ev_opk, ev_peek, ev_snil, ev_scons, ev_anil, ev_aex, ev_abw, ev_cnil, ev_ccons, ev_iex, ev_irng, ev_izip, ev_ienum, ex_asg, ex_unp, ex_par, ex_aug, ex_expr, ex_mutS, ex_ret, ex_ifs, ex_pass, ex_nil, ex_cons, ev_ssnil, ev_sscons, st_lc, st_lc2, st_dc, obind_ite, omap_ite, bnd_ite, mp_ite, bnd_some, mp_some, takeAll, aget_val, aget_own, ownS_list, ownS_dD, nodupN, ownsOf, putBack, dat_fz, dat_ow, thaw_fz, thaw_ow, thaw_emp, get_val, get_at, pre2, owOk, P1.fresh, P2.fresh, P3.fresh, Sl.mk, wipeE, unwipe, ownFree_eq, notOw_fz, notOw_emp, notOw_none, notOw_nz, nz_some, nz_none, bindT_nm, bindT_raw, bindT_pair, bindT_t3, bindT_t4, store, storeS, lcL_nil, lcL_cons, lcPut_some, lcPut_none, f2_eq_nil, f2_ne_nil, int_fold, bool_fold, str_fold, dp_int, dp_bool, dp_str, dp_unit, dp_list, dp_tup, dp_pair, dp_t3, f1_neg, f1_abs, f1_int, f2_add, f2_sub, f2_lt, f2_le, f2_gt, f2_ge, f2_mn2, f2_mx2, augD_add, augD_sub, f1_all, f1_any, f1_sum, f2_in_list, f2_notin_list, f2_in_tup, f2_notin_tup, f2_eq, f2_ne, f2_in_dict, f2_notin_dict, f2_ix_dict, f3_get, pre2_get, pre3_get, preM_append, preM_pop, preM_extend, preM_set, preM_addI, preM_popK, preM_update, fM_pop, fM_popK, ownS_cup, r_roll]
  have hchk : chk2 m l = true := by
    have := List.all_eq_true.mp all2 m (by simp only [List.mem_cons, List.not_mem_nil, or_false]; exact hm6)
    exact List.all_eq_true.mp this l (by simp only [List.mem_cons, List.not_mem_nil, or_false]; exact hl5)
  obtain ⟨r1, r2, ⟨hA, hAv⟩, ⟨hB, hBv⟩, hr1, hr2, hlen1, hlen2, hlt⟩ := chk2_of hchk
  obtain ⟨t1, t2, ⟨hC, hCv⟩, ⟨hD, hDv⟩, ht1, ht2, hlen3, hlen4⟩ := chk3_of
  have e4 : ∀ (x1 x2 x3 x5 x6 x7 x8 x9 : Sl), execS cons (R 13) s_law_4 [.fz (Datum.toD ns), x1, x2, x3, .fz (Datum.toD l), x5, x6, x7, x8, x9, .fz (Datum.toD m), .emp, .emp] = some (.nx, [.fz (Datum.toD ns), x1, x2, x3, .fz (Datum.toD l), x5, x6, x7, .fz (Datum.toD (T4.mk (m.fdiv l) (Tup.mk r2) (7 : Int) (1 : Int))), x9, .fz (Datum.toD m), .emp, .emp]) := by
    intro x1 x2 x3 x5 x6 x7 x8 x9
    have a1 := r_fewest_meeting 8 14 ⟨1, m, 1⟩ l r1 hA hl2 hAv (by omega) hr1
    have a2 := r_first_meeting 8 14 ⟨m, 1, 1⟩ l r2 hB hl2 hBv (by omega) hr2
    have a3 := r_fewest_meeting 8 14 ⟨2, 2, 2⟩ 2 t1 hC (by decide) hCv (by omega) ht1
    have a4 := r_most_marks 8 14 ⟨2, 1, 2⟩ 2 t2 hD (by decide) hDv (by omega) ht2
    rw [hlen1] at a1
    rw [hlen3] at a3
    rw [hlen4] at a4
    simp [s_law_4, -Option.map_eq_some_iff, -List.map_map, -Option.bind_some, -Option.map_some, obind_some, omap_some, ex_fn, ev_cst, ev_glb, ev_rd, ev_p1, ev_p2, ev_p3, ev_chain, ev_and, ev_or, ev_not, ev_ite, ev_tup, ev_lst, ev_call, ev_mut, ev_oex, ev_opk, ev_peek, ev_snil, ev_scons, ev_anil, ev_aex, ev_abw, ev_cnil, ev_ccons, ev_iex, ev_irng, ev_izip, ev_ienum, ex_asg, ex_unp, ex_par, ex_aug, ex_expr, ex_mutS, ex_ret, ex_ifs, ex_pass, ex_nil, ex_cons, ev_ssnil, ev_sscons, st_lc, st_lc2, st_dc, obind_ite, omap_ite, bnd_ite, mp_ite, bnd_some, mp_some, takeAll, aget_val, aget_own, ownS_list, ownS_dD, nodupN, ownsOf, putBack, dat_fz, dat_ow, thaw_fz, thaw_ow, thaw_emp, get_val, get_at, pre2, owOk, P1.fresh, P2.fresh, P3.fresh, Sl.mk, wipeE, unwipe, ownFree_eq, notOw_fz, notOw_emp, notOw_none, notOw_nz, nz_some, nz_none, bindT_nm, bindT_raw, bindT_pair, bindT_t3, bindT_t4, store, storeS, lcL_nil, lcL_cons, lcPut_some, lcPut_none, f2_eq_nil, f2_ne_nil, int_fold, bool_fold, str_fold, dp_int, dp_bool, dp_str, dp_unit, dp_list, dp_tup, dp_pair, dp_t3, f1_neg, f1_abs, f1_int, f2_add, f2_sub, f2_lt, f2_le, f2_gt, f2_ge, f2_mn2, f2_mx2, augD_add, augD_sub, f1_all, f1_any, f1_sum, f2_in_list, f2_notin_list, f2_in_tup, f2_notin_tup, f2_eq, f2_ne, f2_in_dict, f2_notin_dict, f2_ix_dict, f3_get, pre2_get, pre3_get, preM_append, preM_pop, preM_extend, preM_set, preM_addI, preM_popK, preM_update, fM_pop, fM_popK, a1, a2, a3, a4]
  have m0 : l ≠ 0 := by omega
  have ma : l.natAbs < 1073741824 := by omega
  have fm : fits62 m = true := fits62_of (by omega) (by omega)
  have e5 : ∀ (x1 x2 x3 x5 x6 x7 x8 x9 : Sl), execS cons (R 13) s_law_5 [.fz (Datum.toD ns), x1, x2, x3, .fz (Datum.toD l), x5, x6, x7, x8, x9, .fz (Datum.toD m), .emp, .emp] = some (.nx, [.fz (Datum.toD ns), x1, x2, x3, .fz (Datum.toD l), x5, x6, x7, x8, x9, .fz (Datum.toD m), .fz (Datum.toD (Tup.mk (firsts m l))), .emp]) := by
    intro x1 x2 x3 x5 x6 x7 x8 x9
    have h2 : evalE cons (R 13) e_law_2 [.fz (Datum.toD ns), x1, x2, x3, .fz (Datum.toD l), x5, x6, x7, x8, x9, .fz (Datum.toD m), .emp, .emp] = some (.ow (Datum.toD (firsts m l)), [.fz (Datum.toD ns), x1, x2, x3, .fz (Datum.toD l), x5, x6, x7, x8, x9, .fz (Datum.toD m), .emp, .emp]) := by
      refine (lc_F (p := fun k : Int => decide (k.fmod l = l - 1)) (g := fun k => (⟨k, 0, 0⟩ : Cell)) (xs := rangeT 0 m) (by simp [-Option.map_eq_some_iff, -List.map_map, -Option.bind_some, -Option.map_some, obind_some, omap_some, ex_fn, ev_cst, ev_glb, ev_rd, ev_p1, ev_p2, ev_p3, ev_chain, ev_and, ev_or, ev_not, ev_ite, ev_tup, ev_lst, ev_call, ev_mut, ev_oex, ev_opk, ev_peek, ev_snil, ev_scons, ev_anil, ev_aex, ev_abw, ev_cnil, ev_ccons, ev_iex, ev_irng, ev_izip, ev_ienum, ex_asg, ex_unp, ex_par, ex_aug, ex_expr, ex_mutS, ex_ret, ex_ifs, ex_pass, ex_nil, ex_cons, ev_ssnil, ev_sscons, st_lc, st_lc2, st_dc, obind_ite, omap_ite, bnd_ite, mp_ite, bnd_some, mp_some, takeAll, aget_val, aget_own, ownS_list, ownS_dD, nodupN, ownsOf, putBack, dat_fz, dat_ow, thaw_fz, thaw_ow, thaw_emp, get_val, get_at, pre2, owOk, P1.fresh, P2.fresh, P3.fresh, Sl.mk, wipeE, unwipe, ownFree_eq, notOw_fz, notOw_emp, notOw_none, notOw_nz, nz_some, nz_none, bindT_nm, bindT_raw, bindT_pair, bindT_t3, bindT_t4, store, storeS, lcL_nil, lcL_cons, lcPut_some, lcPut_none, f2_eq_nil, f2_ne_nil, int_fold, bool_fold, str_fold, dp_int, dp_bool, dp_str, dp_unit, dp_list, dp_tup, dp_pair, dp_t3, f1_neg, f1_abs, f1_int, f2_add, f2_sub, f2_lt, f2_le, f2_gt, f2_ge, f2_mn2, f2_mx2, augD_add, augD_sub, f1_all, f1_any, f1_sum, f2_in_list, f2_notin_list, f2_in_tup, f2_notin_tup, f2_eq, f2_ne, f2_in_dict, f2_notin_dict, f2_ix_dict, f3_get, pre2_get, pre3_get, preM_append, preM_pop, preM_extend, preM_set, preM_addI, preM_popK, preM_update, fM_pop, fM_popK, rangeOf_1, fm] <;> rfl) rfl (by rw [length_rangeT]; unfold SL; omega) ?_).trans (by simp [-Option.map_eq_some_iff, -List.map_map, -Option.bind_some, -Option.map_some, obind_some, omap_some, ex_fn, ev_cst, ev_glb, ev_rd, ev_p1, ev_p2, ev_p3, ev_chain, ev_and, ev_or, ev_not, ev_ite, ev_tup, ev_lst, ev_call, ev_mut, ev_oex, ev_opk, ev_peek, ev_snil, ev_scons, ev_anil, ev_aex, ev_abw, ev_cnil, ev_ccons, ev_iex, ev_irng, ev_izip, ev_ienum, ex_asg, ex_unp, ex_par, ex_aug, ex_expr, ex_mutS, ex_ret, ex_ifs, ex_pass, ex_nil, ex_cons, ev_ssnil, ev_sscons, st_lc, st_lc2, st_dc, obind_ite, omap_ite, bnd_ite, mp_ite, bnd_some, mp_some, takeAll, aget_val, aget_own, ownS_list, ownS_dD, nodupN, ownsOf, putBack, dat_fz, dat_ow, thaw_fz, thaw_ow, thaw_emp, get_val, get_at, pre2, owOk, P1.fresh, P2.fresh, P3.fresh, Sl.mk, wipeE, unwipe, ownFree_eq, notOw_fz, notOw_emp, notOw_none, notOw_nz, nz_some, nz_none, bindT_nm, bindT_raw, bindT_pair, bindT_t3, bindT_t4, store, storeS, lcL_nil, lcL_cons, lcPut_some, lcPut_none, f2_eq_nil, f2_ne_nil, int_fold, bool_fold, str_fold, dp_int, dp_bool, dp_str, dp_unit, dp_list, dp_tup, dp_pair, dp_t3, f1_neg, f1_abs, f1_int, f2_add, f2_sub, f2_lt, f2_le, f2_gt, f2_ge, f2_mn2, f2_mx2, augD_add, augD_sub, f1_all, f1_any, f1_sum, f2_in_list, f2_notin_list, f2_in_tup, f2_notin_tup, f2_eq, f2_ne, f2_in_dict, f2_notin_dict, f2_ix_dict, f3_get, pre2_get, pre3_get, preM_append, preM_pop, preM_extend, preM_set, preM_addI, preM_popK, preM_update, fM_pop, fM_popK, firsts])
      intro k _
      simp [-Option.map_eq_some_iff, -List.map_map, -Option.bind_some, -Option.map_some, obind_some, omap_some, ex_fn, ev_cst, ev_glb, ev_rd, ev_p1, ev_p2, ev_p3, ev_chain, ev_and, ev_or, ev_not, ev_ite, ev_tup, ev_lst, ev_call, ev_mut, ev_oex, ev_opk, ev_peek, ev_snil, ev_scons, ev_anil, ev_aex, ev_abw, ev_cnil, ev_ccons, ev_iex, ev_irng, ev_izip, ev_ienum, ex_asg, ex_unp, ex_par, ex_aug, ex_expr, ex_mutS, ex_ret, ex_ifs, ex_pass, ex_nil, ex_cons, ev_ssnil, ev_sscons, st_lc, st_lc2, st_dc, obind_ite, omap_ite, bnd_ite, mp_ite, bnd_some, mp_some, takeAll, aget_val, aget_own, ownS_list, ownS_dD, nodupN, ownsOf, putBack, dat_fz, dat_ow, thaw_fz, thaw_ow, thaw_emp, get_val, get_at, pre2, owOk, P1.fresh, P2.fresh, P3.fresh, Sl.mk, wipeE, unwipe, ownFree_eq, notOw_fz, notOw_emp, notOw_none, notOw_nz, nz_some, nz_none, bindT_nm, bindT_raw, bindT_pair, bindT_t3, bindT_t4, store, storeS, lcL_nil, lcL_cons, lcPut_some, lcPut_none, f2_eq_nil, f2_ne_nil, int_fold, bool_fold, str_fold, dp_int, dp_bool, dp_str, dp_unit, dp_list, dp_tup, dp_pair, dp_t3, f1_neg, f1_abs, f1_int, f2_add, f2_sub, f2_lt, f2_le, f2_gt, f2_ge, f2_mn2, f2_mx2, augD_add, augD_sub, f1_all, f1_any, f1_sum, f2_in_list, f2_notin_list, f2_in_tup, f2_notin_tup, f2_eq, f2_ne, f2_in_dict, f2_notin_dict, f2_ix_dict, f3_get, pre2_get, pre3_get, preM_append, preM_pop, preM_extend, preM_set, preM_addI, preM_popK, preM_update, fM_pop, fM_popK, f2_mod, m0]
      split <;> simp
    simp [s_law_5, -Option.map_eq_some_iff, -List.map_map, -Option.bind_some, -Option.map_some, obind_some, omap_some, ex_fn, ev_cst, ev_glb, ev_rd, ev_p1, ev_p2, ev_p3, ev_chain, ev_and, ev_or, ev_not, ev_ite, ev_tup, ev_lst, ev_call, ev_mut, ev_oex, ev_opk, ev_peek, ev_snil, ev_scons, ev_anil, ev_aex, ev_abw, ev_cnil, ev_ccons, ev_iex, ev_irng, ev_izip, ev_ienum, ex_asg, ex_unp, ex_par, ex_aug, ex_expr, ex_mutS, ex_ret, ex_ifs, ex_pass, ex_nil, ex_cons, ev_ssnil, ev_sscons, st_lc, st_lc2, st_dc, obind_ite, omap_ite, bnd_ite, mp_ite, bnd_some, mp_some, takeAll, aget_val, aget_own, ownS_list, ownS_dD, nodupN, ownsOf, putBack, dat_fz, dat_ow, thaw_fz, thaw_ow, thaw_emp, get_val, get_at, pre2, owOk, P1.fresh, P2.fresh, P3.fresh, Sl.mk, wipeE, unwipe, ownFree_eq, notOw_fz, notOw_emp, notOw_none, notOw_nz, nz_some, nz_none, bindT_nm, bindT_raw, bindT_pair, bindT_t3, bindT_t4, store, storeS, lcL_nil, lcL_cons, lcPut_some, lcPut_none, f2_eq_nil, f2_ne_nil, int_fold, bool_fold, str_fold, dp_int, dp_bool, dp_str, dp_unit, dp_list, dp_tup, dp_pair, dp_t3, f1_neg, f1_abs, f1_int, f2_add, f2_sub, f2_lt, f2_le, f2_gt, f2_ge, f2_mn2, f2_mx2, augD_add, augD_sub, f1_all, f1_any, f1_sum, f2_in_list, f2_notin_list, f2_in_tup, f2_notin_tup, f2_eq, f2_ne, f2_in_dict, f2_notin_dict, f2_ix_dict, f3_get, pre2_get, pre3_get, preM_append, preM_pop, preM_extend, preM_set, preM_addI, preM_popK, preM_update, fM_pop, fM_popK, h2]
  have e6 : ∀ (x1 x2 x3 x5 x6 x7 x9 : Sl), execS cons (R 13) s_law_6 [.fz (Datum.toD ns), x1, x2, x3, .fz (Datum.toD l), x5, x6, x7, .fz (Datum.toD (T4.mk (m.fdiv l) (Tup.mk r2) (7 : Int) (1 : Int))), x9, .fz (Datum.toD m), .fz (Datum.toD (Tup.mk (firsts m l))), .emp] = some (.rt (.fz (Datum.toD true)), [.fz (Datum.toD ns), x1, x2, x3, .fz (Datum.toD l), x5, x6, x7, .fz (Datum.toD (T4.mk (m.fdiv l) (Tup.mk r2) (7 : Int) (1 : Int))), x9, .fz (Datum.toD m), .fz (Datum.toD (Tup.mk (firsts m l))), .emp]) := by
    intro x1 x2 x3 x5 x6 x7 x9
    have hsm : R 13 26 _ = _ := r_same 8 4 (T3.mk (m.fdiv l) (7 : Int) (1 : Int)) rfl (by decide)
    have hle := f2_le_tup (Tup.mk r2) (Tup.mk (firsts m l)) (by decide)
    rw [hlt] at hle
    simp [s_law_6, -Option.map_eq_some_iff, -List.map_map, -Option.bind_some, -Option.map_some, obind_some, omap_some, ex_fn, ev_cst, ev_glb, ev_rd, ev_p1, ev_p2, ev_p3, ev_chain, ev_and, ev_or, ev_not, ev_ite, ev_tup, ev_lst, ev_call, ev_mut, ev_oex, ev_opk, ev_peek, ev_snil, ev_scons, ev_anil, ev_aex, ev_abw, ev_cnil, ev_ccons, ev_iex, ev_irng, ev_izip, ev_ienum, ex_asg, ex_unp, ex_par, ex_aug, ex_expr, ex_mutS, ex_ret, ex_ifs, ex_pass, ex_nil, ex_cons, ev_ssnil, ev_sscons, st_lc, st_lc2, st_dc, obind_ite, omap_ite, bnd_ite, mp_ite, bnd_some, mp_some, takeAll, aget_val, aget_own, ownS_list, ownS_dD, nodupN, ownsOf, putBack, dat_fz, dat_ow, thaw_fz, thaw_ow, thaw_emp, get_val, get_at, pre2, owOk, P1.fresh, P2.fresh, P3.fresh, Sl.mk, wipeE, unwipe, ownFree_eq, notOw_fz, notOw_emp, notOw_none, notOw_nz, nz_some, nz_none, bindT_nm, bindT_raw, bindT_pair, bindT_t3, bindT_t4, store, storeS, lcL_nil, lcL_cons, lcPut_some, lcPut_none, f2_eq_nil, f2_ne_nil, int_fold, bool_fold, str_fold, dp_int, dp_bool, dp_str, dp_unit, dp_list, dp_tup, dp_pair, dp_t3, f1_neg, f1_abs, f1_int, f2_add, f2_sub, f2_lt, f2_le, f2_gt, f2_ge, f2_mn2, f2_mx2, augD_add, augD_sub, f1_all, f1_any, f1_sum, f2_in_list, f2_notin_list, f2_in_tup, f2_notin_tup, f2_eq, f2_ne, f2_in_dict, f2_notin_dict, f2_ix_dict, f3_get, pre2_get, pre3_get, preM_append, preM_pop, preM_extend, preM_set, preM_addI, preM_popK, preM_update, fM_pop, fM_popK, f2_ix_t40, f2_ix_t41, f2_ix_t42, f2_ix_t43, f2_fdiv, m0, ma, hsm, hlen2, hle]
  refine ⟨[.fz (Datum.toD ns)], ?_⟩
  show R 14 30 [.fz (Datum.toD ns)] = some (.fz (Datum.toD true), [.fz (Datum.toD ns)])
  have f3 : fits62 3 = true := by decide
  simp [R_law, c_law, s_law_1, l_law_1, ex_for, -Option.map_eq_some_iff, -List.map_map, -Option.bind_some, -Option.map_some, obind_some, omap_some, ex_fn, ev_cst, ev_glb, ev_rd, ev_p1, ev_p2, ev_p3, ev_chain, ev_and, ev_or, ev_not, ev_ite, ev_tup, ev_lst, ev_call, ev_mut, ev_oex, ev_opk, ev_peek, ev_snil, ev_scons, ev_anil, ev_aex, ev_abw, ev_cnil, ev_ccons, ev_iex, ev_irng, ev_izip, ev_ienum, ex_asg, ex_unp, ex_par, ex_aug, ex_expr, ex_mutS, ex_ret, ex_ifs, ex_pass, ex_nil, ex_cons, ev_ssnil, ev_sscons, st_lc, st_lc2, st_dc, obind_ite, omap_ite, bnd_ite, mp_ite, bnd_some, mp_some, takeAll, aget_val, aget_own, ownS_list, ownS_dD, nodupN, ownsOf, putBack, dat_fz, dat_ow, thaw_fz, thaw_ow, thaw_emp, get_val, get_at, pre2, owOk, P1.fresh, P2.fresh, P3.fresh, Sl.mk, wipeE, unwipe, ownFree_eq, notOw_fz, notOw_emp, notOw_none, notOw_nz, nz_some, nz_none, bindT_nm, bindT_raw, bindT_pair, bindT_t3, bindT_t4, store, storeS, lcL_nil, lcL_cons, lcPut_some, lcPut_none, f2_eq_nil, f2_ne_nil, int_fold, bool_fold, str_fold, dp_int, dp_bool, dp_str, dp_unit, dp_list, dp_tup, dp_pair, dp_t3, f1_neg, f1_abs, f1_int, f2_add, f2_sub, f2_lt, f2_le, f2_gt, f2_ge, f2_mn2, f2_mx2, augD_add, augD_sub, f1_all, f1_any, f1_sum, f2_in_list, f2_notin_list, f2_in_tup, f2_notin_tup, f2_eq, f2_ne, f2_in_dict, f2_notin_dict, f2_ix_dict, f3_get, pre2_get, pre3_get, preM_append, preM_pop, preM_extend, preM_set, preM_addI, preM_popK, preM_update, fM_pop, fM_popK, h0, rangeOf_1, f3, h1, e3, e4, e5, e6]

end G94
end

namespace G94
open Ky PySem PySem.Spec L2
theorem all_mk {P : Program} {w : World} {K : PySem.W.Frag} {h : Heap} {mg : Str → Option Value} {fa : Addr} (X : K.In h) (G : h.Ns mainGlobals mg) (hfa : mg "law" = some (.ref fa))
    {f0 : Addr} {oc0 kV0 dc0 pm0 cd0 ct0 : Value} {od0 an0 : Option Addr} {sl0 : Array (Option Value)}
    (a0 : PySem.W.nsIn K mainGlobals "is_whole" = some (some (.ref f0))) (l0 : K.lookup f0 = some ⟨oc0, od0, .func (PySem.W.fnOf "is_whole" "is_whole" (defArgs s_is_whole) (defBody s_is_whole) (defScope s_is_whole) .none kV0 dc0 pm0 an0 cd0 ct0), sl0⟩) (c0 : PySem.W.codeIn K cd0 "is_whole" = true) (k0 : PySem.W.keepIn K (.ref f0) = true)
    {f1 : Addr} {oc1 kV1 dc1 pm1 cd1 ct1 : Value} {od1 an1 : Option Addr} {sl1 : Array (Option Value)}
    (a1 : PySem.W.nsIn K mainGlobals "fits_whole" = some (some (.ref f1))) (l1 : K.lookup f1 = some ⟨oc1, od1, .func (PySem.W.fnOf "fits_whole" "fits_whole" (defArgs s_fits_whole) (defBody s_fits_whole) (defScope s_fits_whole) .none kV1 dc1 pm1 an1 cd1 ct1), sl1⟩) (c1 : PySem.W.codeIn K cd1 "fits_whole" = true) (k1 : PySem.W.keepIn K (.ref f1) = true)
    {f2 : Addr} {oc2 kV2 dc2 pm2 cd2 ct2 : Value} {od2 an2 : Option Addr} {sl2 : Array (Option Value)}
    (a2 : PySem.W.nsIn K mainGlobals "is_tuple_of" = some (some (.ref f2))) (l2 : K.lookup f2 = some ⟨oc2, od2, .func (PySem.W.fnOf "is_tuple_of" "is_tuple_of" (defArgs s_is_tuple_of) (defBody s_is_tuple_of) (defScope s_is_tuple_of) .none kV2 dc2 pm2 an2 cd2 ct2), sl2⟩) (c2 : PySem.W.codeIn K cd2 "is_tuple_of" = true) (k2 : PySem.W.keepIn K (.ref f2) = true)
    {f3 : Addr} {oc3 kV3 dc3 pm3 cd3 ct3 : Value} {od3 an3 : Option Addr} {sl3 : Array (Option Value)}
    (a3 : PySem.W.nsIn K mainGlobals "is_rising" = some (some (.ref f3))) (l3 : K.lookup f3 = some ⟨oc3, od3, .func (PySem.W.fnOf "is_rising" "is_rising" (defArgs s_is_rising) (defBody s_is_rising) (defScope s_is_rising) .none kV3 dc3 pm3 an3 cd3 ct3), sl3⟩) (c3 : PySem.W.codeIn K cd3 "is_rising" = true) (k3 : PySem.W.keepIn K (.ref f3) = true)
    {f4 : Addr} {oc4 kV4 dc4 pm4 cd4 ct4 : Value} {od4 an4 : Option Addr} {sl4 : Array (Option Value)}
    (a4 : PySem.W.nsIn K mainGlobals "fits_cell" = some (some (.ref f4))) (l4 : K.lookup f4 = some ⟨oc4, od4, .func (PySem.W.fnOf "fits_cell" "fits_cell" (defArgs s_fits_cell) (defBody s_fits_cell) (defScope s_fits_cell) .none kV4 dc4 pm4 an4 cd4 ct4), sl4⟩) (c4 : PySem.W.codeIn K cd4 "fits_cell" = true) (k4 : PySem.W.keepIn K (.ref f4) = true)
    {f5 : Addr} {oc5 kV5 dc5 pm5 cd5 ct5 : Value} {od5 an5 : Option Addr} {sl5 : Array (Option Value)}
    (a5 : PySem.W.nsIn K mainGlobals "fits_sides" = some (some (.ref f5))) (l5 : K.lookup f5 = some ⟨oc5, od5, .func (PySem.W.fnOf "fits_sides" "fits_sides" (defArgs s_fits_sides) (defBody s_fits_sides) (defScope s_fits_sides) .none kV5 dc5 pm5 an5 cd5 ct5), sl5⟩) (c5 : PySem.W.codeIn K cd5 "fits_sides" = true) (k5 : PySem.W.keepIn K (.ref f5) = true)
    {f6 : Addr} {oc6 kV6 dc6 pm6 cd6 ct6 : Value} {od6 an6 : Option Addr} {sl6 : Array (Option Value)}
    (a6 : PySem.W.nsIn K mainGlobals "need_box" = some (some (.ref f6))) (l6 : K.lookup f6 = some ⟨oc6, od6, .func (PySem.W.fnOf "need_box" "need_box" (defArgs s_need_box) (defBody s_need_box) (defScope s_need_box) .none kV6 dc6 pm6 an6 cd6 ct6), sl6⟩) (c6 : PySem.W.codeIn K cd6 "need_box" = true) (k6 : PySem.W.keepIn K (.ref f6) = true)
    {f7 : Addr} {oc7 kV7 dc7 pm7 cd7 ct7 : Value} {od7 an7 : Option Addr} {sl7 : Array (Option Value)}
    (a7 : PySem.W.nsIn K mainGlobals "is_in" = some (some (.ref f7))) (l7 : K.lookup f7 = some ⟨oc7, od7, .func (PySem.W.fnOf "is_in" "is_in" (defArgs s_is_in) (defBody s_is_in) (defScope s_is_in) .none kV7 dc7 pm7 an7 cd7 ct7), sl7⟩) (c7 : PySem.W.codeIn K cd7 "is_in" = true) (k7 : PySem.W.keepIn K (.ref f7) = true)
    {f8 : Addr} {oc8 kV8 dc8 pm8 cd8 ct8 : Value} {od8 an8 : Option Addr} {sl8 : Array (Option Value)}
    (a8 : PySem.W.nsIn K mainGlobals "cells_in" = some (some (.ref f8))) (l8 : K.lookup f8 = some ⟨oc8, od8, .func (PySem.W.fnOf "cells_in" "cells_in" (defArgs s_cells_in) (defBody s_cells_in) (defScope s_cells_in) .none kV8 dc8 pm8 an8 cd8 ct8), sl8⟩) (c8 : PySem.W.codeIn K cd8 "cells_in" = true) (k8 : PySem.W.keepIn K (.ref f8) = true)
    {f9 : Addr} {oc9 kV9 dc9 pm9 cd9 ct9 : Value} {od9 an9 : Option Addr} {sl9 : Array (Option Value)}
    (a9 : PySem.W.nsIn K mainGlobals "row_from" = some (some (.ref f9))) (l9 : K.lookup f9 = some ⟨oc9, od9, .func (PySem.W.fnOf "row_from" "row_from" (defArgs s_row_from) (defBody s_row_from) (defScope s_row_from) .none kV9 dc9 pm9 an9 cd9 ct9), sl9⟩) (c9 : PySem.W.codeIn K cd9 "row_from" = true) (k9 : PySem.W.keepIn K (.ref f9) = true)
    {f10 : Addr} {oc10 kV10 dc10 pm10 cd10 ct10 : Value} {od10 an10 : Option Addr} {sl10 : Array (Option Value)}
    (a10 : PySem.W.nsIn K mainGlobals "rows_in" = some (some (.ref f10))) (l10 : K.lookup f10 = some ⟨oc10, od10, .func (PySem.W.fnOf "rows_in" "rows_in" (defArgs s_rows_in) (defBody s_rows_in) (defScope s_rows_in) .none kV10 dc10 pm10 an10 cd10 ct10), sl10⟩) (c10 : PySem.W.codeIn K cd10 "rows_in" = true) (k10 : PySem.W.keepIn K (.ref f10) = true)
    {f11 : Addr} {oc11 kV11 dc11 pm11 cd11 ct11 : Value} {od11 an11 : Option Addr} {sl11 : Array (Option Value)}
    (a11 : PySem.W.nsIn K mainGlobals "fits_marks" = some (some (.ref f11))) (l11 : K.lookup f11 = some ⟨oc11, od11, .func (PySem.W.fnOf "fits_marks" "fits_marks" (defArgs s_fits_marks) (defBody s_fits_marks) (defScope s_fits_marks) .none kV11 dc11 pm11 an11 cd11 ct11), sl11⟩) (c11 : PySem.W.codeIn K cd11 "fits_marks" = true) (k11 : PySem.W.keepIn K (.ref f11) = true)
    {f12 : Addr} {oc12 kV12 dc12 pm12 cd12 ct12 : Value} {od12 an12 : Option Addr} {sl12 : Array (Option Value)}
    (a12 : PySem.W.nsIn K mainGlobals "need_marks" = some (some (.ref f12))) (l12 : K.lookup f12 = some ⟨oc12, od12, .func (PySem.W.fnOf "need_marks" "need_marks" (defArgs s_need_marks) (defBody s_need_marks) (defScope s_need_marks) .none kV12 dc12 pm12 an12 cd12 ct12), sl12⟩) (c12 : PySem.W.codeIn K cd12 "need_marks" = true) (k12 : PySem.W.keepIn K (.ref f12) = true)
    {f13 : Addr} {oc13 kV13 dc13 pm13 cd13 ct13 : Value} {od13 an13 : Option Addr} {sl13 : Array (Option Value)}
    (a13 : PySem.W.nsIn K mainGlobals "need_few" = some (some (.ref f13))) (l13 : K.lookup f13 = some ⟨oc13, od13, .func (PySem.W.fnOf "need_few" "need_few" (defArgs s_need_few) (defBody s_need_few) (defScope s_need_few) .none kV13 dc13 pm13 an13 cd13 ct13), sl13⟩) (c13 : PySem.W.codeIn K cd13 "need_few" = true) (k13 : PySem.W.keepIn K (.ref f13) = true)
    {f14 : Addr} {oc14 kV14 dc14 pm14 cd14 ct14 : Value} {od14 an14 : Option Addr} {sl14 : Array (Option Value)}
    (a14 : PySem.W.nsIn K mainGlobals "hits_in" = some (some (.ref f14))) (l14 : K.lookup f14 = some ⟨oc14, od14, .func (PySem.W.fnOf "hits_in" "hits_in" (defArgs s_hits_in) (defBody s_hits_in) (defScope s_hits_in) .none kV14 dc14 pm14 an14 cd14 ct14), sl14⟩) (c14 : PySem.W.codeIn K cd14 "hits_in" = true) (k14 : PySem.W.keepIn K (.ref f14) = true)
    {f15 : Addr} {oc15 kV15 dc15 pm15 cd15 ct15 : Value} {od15 an15 : Option Addr} {sl15 : Array (Option Value)}
    (a15 : PySem.W.nsIn K mainGlobals "fewest_in" = some (some (.ref f15))) (l15 : K.lookup f15 = some ⟨oc15, od15, .func (PySem.W.fnOf "fewest_in" "fewest_in" (defArgs s_fewest_in) (defBody s_fewest_in) (defScope s_fewest_in) .none kV15 dc15 pm15 an15 cd15 ct15), sl15⟩) (c15 : PySem.W.codeIn K cd15 "fewest_in" = true) (k15 : PySem.W.keepIn K (.ref f15) = true)
    {f16 : Addr} {oc16 kV16 dc16 pm16 cd16 ct16 : Value} {od16 an16 : Option Addr} {sl16 : Array (Option Value)}
    (a16 : PySem.W.nsIn K mainGlobals "most_in" = some (some (.ref f16))) (l16 : K.lookup f16 = some ⟨oc16, od16, .func (PySem.W.fnOf "most_in" "most_in" (defArgs s_most_in) (defBody s_most_in) (defScope s_most_in) .none kV16 dc16 pm16 an16 cd16 ct16), sl16⟩) (c16 : PySem.W.codeIn K cd16 "most_in" = true) (k16 : PySem.W.keepIn K (.ref f16) = true)
    {f17 : Addr} {oc17 kV17 dc17 pm17 cd17 ct17 : Value} {od17 an17 : Option Addr} {sl17 : Array (Option Value)}
    (a17 : PySem.W.nsIn K mainGlobals "full_rows" = some (some (.ref f17))) (l17 : K.lookup f17 = some ⟨oc17, od17, .func (PySem.W.fnOf "full_rows" "full_rows" (defArgs s_full_rows) (defBody s_full_rows) (defScope s_full_rows) .none kV17 dc17 pm17 an17 cd17 ct17), sl17⟩) (c17 : PySem.W.codeIn K cd17 "full_rows" = true) (k17 : PySem.W.keepIn K (.ref f17) = true)
    {f18 : Addr} {oc18 kV18 dc18 pm18 cd18 ct18 : Value} {od18 an18 : Option Addr} {sl18 : Array (Option Value)}
    (a18 : PySem.W.nsIn K mainGlobals "open_rows" = some (some (.ref f18))) (l18 : K.lookup f18 = some ⟨oc18, od18, .func (PySem.W.fnOf "open_rows" "open_rows" (defArgs s_open_rows) (defBody s_open_rows) (defScope s_open_rows) .none kV18 dc18 pm18 an18 cd18 ct18), sl18⟩) (c18 : PySem.W.codeIn K cd18 "open_rows" = true) (k18 : PySem.W.keepIn K (.ref f18) = true)
    {f19 : Addr} {oc19 kV19 dc19 pm19 cd19 ct19 : Value} {od19 an19 : Option Addr} {sl19 : Array (Option Value)}
    (a19 : PySem.W.nsIn K mainGlobals "fewest_meeting" = some (some (.ref f19))) (l19 : K.lookup f19 = some ⟨oc19, od19, .func (PySem.W.fnOf "fewest_meeting" "fewest_meeting" (defArgs s_fewest_meeting) (defBody s_fewest_meeting) (defScope s_fewest_meeting) .none kV19 dc19 pm19 an19 cd19 ct19), sl19⟩) (c19 : PySem.W.codeIn K cd19 "fewest_meeting" = true) (k19 : PySem.W.keepIn K (.ref f19) = true)
    {f20 : Addr} {oc20 kV20 dc20 pm20 cd20 ct20 : Value} {od20 an20 : Option Addr} {sl20 : Array (Option Value)}
    (a20 : PySem.W.nsIn K mainGlobals "first_meeting" = some (some (.ref f20))) (l20 : K.lookup f20 = some ⟨oc20, od20, .func (PySem.W.fnOf "first_meeting" "first_meeting" (defArgs s_first_meeting) (defBody s_first_meeting) (defScope s_first_meeting) .none kV20 dc20 pm20 an20 cd20 ct20), sl20⟩) (c20 : PySem.W.codeIn K cd20 "first_meeting" = true) (k20 : PySem.W.keepIn K (.ref f20) = true)
    {f21 : Addr} {oc21 kV21 dc21 pm21 cd21 ct21 : Value} {od21 an21 : Option Addr} {sl21 : Array (Option Value)}
    (a21 : PySem.W.nsIn K mainGlobals "most_marks" = some (some (.ref f21))) (l21 : K.lookup f21 = some ⟨oc21, od21, .func (PySem.W.fnOf "most_marks" "most_marks" (defArgs s_most_marks) (defBody s_most_marks) (defScope s_most_marks) .none kV21 dc21 pm21 an21 cd21 ct21), sl21⟩) (c21 : PySem.W.codeIn K cd21 "most_marks" = true) (k21 : PySem.W.keepIn K (.ref f21) = true)
    {f22 : Addr} {oc22 kV22 dc22 pm22 cd22 ct22 : Value} {od22 an22 : Option Addr} {sl22 : Array (Option Value)}
    (a22 : PySem.W.nsIn K mainGlobals "some_marks" = some (some (.ref f22))) (l22 : K.lookup f22 = some ⟨oc22, od22, .func (PySem.W.fnOf "some_marks" "some_marks" (defArgs s_some_marks) (defBody s_some_marks) (defScope s_some_marks) .none kV22 dc22 pm22 an22 cd22 ct22), sl22⟩) (c22 : PySem.W.codeIn K cd22 "some_marks" = true) (k22 : PySem.W.keepIn K (.ref f22) = true)
    {f23 : Addr} {oc23 kV23 dc23 pm23 cd23 ct23 : Value} {od23 an23 : Option Addr} {sl23 : Array (Option Value)}
    (a23 : PySem.W.nsIn K mainGlobals "_law_cup" = some (some (.ref f23))) (l23 : K.lookup f23 = some ⟨oc23, od23, .func (PySem.W.fnOf "_law_cup" "_law_cup" (defArgs s_law_cup) (defBody s_law_cup) (defScope s_law_cup) .none kV23 dc23 pm23 an23 cd23 ct23), sl23⟩) (c23 : PySem.W.codeIn K cd23 "_law_cup" = true) (k23 : PySem.W.keepIn K (.ref f23) = true)
    {f24 : Addr} {oc24 kV24 dc24 pm24 cd24 ct24 : Value} {od24 an24 : Option Addr} {sl24 : Array (Option Value)}
    (a24 : PySem.W.nsIn K mainGlobals "_law_roll" = some (some (.ref f24))) (l24 : K.lookup f24 = some ⟨oc24, od24, .func (PySem.W.fnOf "_law_roll" "_law_roll" (defArgs s_law_roll) (defBody s_law_roll) (defScope s_law_roll) .none kV24 dc24 pm24 an24 cd24 ct24), sl24⟩) (c24 : PySem.W.codeIn K cd24 "_law_roll" = true) (k24 : PySem.W.keepIn K (.ref f24) = true)
    {f25 : Addr} {oc25 kV25 dc25 pm25 cd25 ct25 : Value} {od25 an25 : Option Addr} {sl25 : Array (Option Value)}
    (a25 : PySem.W.nsIn K mainGlobals "_law_some" = some (some (.ref f25))) (l25 : K.lookup f25 = some ⟨oc25, od25, .func (PySem.W.fnOf "_law_some" "_law_some" (defArgs s_law_some) (defBody s_law_some) (defScope s_law_some) .none kV25 dc25 pm25 an25 cd25 ct25), sl25⟩) (c25 : PySem.W.codeIn K cd25 "_law_some" = true) (k25 : PySem.W.keepIn K (.ref f25) = true)
    {f26 : Addr} {oc26 kV26 dc26 pm26 cd26 ct26 : Value} {od26 an26 : Option Addr} {sl26 : Array (Option Value)}
    (a26 : PySem.W.nsIn K mainGlobals "_law_same" = some (some (.ref f26))) (l26 : K.lookup f26 = some ⟨oc26, od26, .func (PySem.W.fnOf "_law_same" "_law_same" (defArgs s_law_same) (defBody s_law_same) (defScope s_law_same) .none kV26 dc26 pm26 an26 cd26 ct26), sl26⟩) (c26 : PySem.W.codeIn K cd26 "_law_same" = true) (k26 : PySem.W.keepIn K (.ref f26) = true)
    {f27 : Addr} {oc27 kV27 dc27 pm27 cd27 ct27 : Value} {od27 an27 : Option Addr} {sl27 : Array (Option Value)}
    (a27 : PySem.W.nsIn K mainGlobals "_law_cells" = some (some (.ref f27))) (l27 : K.lookup f27 = some ⟨oc27, od27, .func (PySem.W.fnOf "_law_cells" "_law_cells" (defArgs s_law_cells) (defBody s_law_cells) (defScope s_law_cells) .none kV27 dc27 pm27 an27 cd27 ct27), sl27⟩) (c27 : PySem.W.codeIn K cd27 "_law_cells" = true) (k27 : PySem.W.keepIn K (.ref f27) = true)
    {f28 : Addr} {oc28 kV28 dc28 pm28 cd28 ct28 : Value} {od28 an28 : Option Addr} {sl28 : Array (Option Value)}
    (a28 : PySem.W.nsIn K mainGlobals "_law_rows" = some (some (.ref f28))) (l28 : K.lookup f28 = some ⟨oc28, od28, .func (PySem.W.fnOf "_law_rows" "_law_rows" (defArgs s_law_rows) (defBody s_law_rows) (defScope s_law_rows) .none kV28 dc28 pm28 an28 cd28 ct28), sl28⟩) (c28 : PySem.W.codeIn K cd28 "_law_rows" = true) (k28 : PySem.W.keepIn K (.ref f28) = true)
    {f29 : Addr} {oc29 kV29 dc29 pm29 cd29 ct29 : Value} {od29 an29 : Option Addr} {sl29 : Array (Option Value)}
    (a29 : PySem.W.nsIn K mainGlobals "_law_first" = some (some (.ref f29))) (l29 : K.lookup f29 = some ⟨oc29, od29, .func (PySem.W.fnOf "_law_first" "_law_first" (defArgs s_law_first) (defBody s_law_first) (defScope s_law_first) .none kV29 dc29 pm29 an29 cd29 ct29), sl29⟩) (c29 : PySem.W.codeIn K cd29 "_law_first" = true) (k29 : PySem.W.keepIn K (.ref f29) = true)
    {f30 : Addr} {oc30 kV30 dc30 pm30 cd30 ct30 : Value} {od30 an30 : Option Addr} {sl30 : Array (Option Value)}
    (a30 : PySem.W.nsIn K mainGlobals "law" = some (some (.ref f30))) (l30 : K.lookup f30 = some ⟨oc30, od30, .func (PySem.W.fnOf "law" "law" (defArgs s_law) (defBody s_law) (defScope s_law) .none kV30 dc30 pm30 an30 cd30 ct30), sl30⟩) (c30 : PySem.W.codeIn K cd30 "law" = true) (k30 : PySem.W.keepIn K (.ref f30) = true)
    {u0 : Value} (x0 : PySem.W.nsIn K mainGlobals "FAR" = some (some u0)) (y0 : kDat K (cons.getD 0 .none) u0 = true)
    {u1 : Value} (x1 : PySem.W.nsIn K mainGlobals "SIDE" = some (some u1)) (y1 : kDat K (cons.getD 1 .none) u1 = true)
    {u2 : Value} (x2 : PySem.W.nsIn K mainGlobals "FEW" = some (some u2)) (y2 : kDat K (cons.getD 2 .none) u2 = true)
    {u3 : Value} (x3 : PySem.W.nsIn K mainGlobals "WAYS" = some (some u3)) (y3 : kDat K (cons.getD 3 .none) u3 = true)
    (z : (bltNames.all fun x => decide (PySem.W.nsIn K mainGlobals x = some none)) = true) :
    ∃ fd : FuncData, (∀ (s : Shared) (u : Value), BindsTo s fd ⟨[u], []⟩ [("script", u)]) ∧ ∀ base : Heap, K.In base → base.Ns mainGlobals mg → FnOk P w K mg base CX0 14 fa fd ["script"] (spF K w (run cons fns 14 30) 1) := by
  have D : DefsOk K mg fnN conN fnN fns := ⟨def_mk X G sc_is_whole k_is_whole (fun _ _ _ _ _ _ us hl => match us, hl with | [_], _ => rfl) a0 l0 c0 k0,
    def_mk X G sc_fits_whole k_fits_whole (fun _ _ _ _ _ _ us hl => match us, hl with | [_, _, _], _ => rfl) a1 l1 c1 k1,
    def_mk X G sc_is_tuple_of k_is_tuple_of (fun _ _ _ _ _ _ us hl => match us, hl with | [_, _, _], _ => rfl) a2 l2 c2 k2,
    def_mk X G sc_is_rising k_is_rising (fun _ _ _ _ _ _ us hl => match us, hl with | [_], _ => rfl) a3 l3 c3 k3,
    def_mk X G sc_fits_cell k_fits_cell (fun _ _ _ _ _ _ us hl => match us, hl with | [_], _ => rfl) a4 l4 c4 k4,
    def_mk X G sc_fits_sides k_fits_sides (fun _ _ _ _ _ _ us hl => match us, hl with | [_], _ => rfl) a5 l5 c5 k5,
    def_mk X G sc_need_box k_need_box (fun _ _ _ _ _ _ us hl => match us, hl with | [_, _], _ => rfl) a6 l6 c6 k6,
    def_mk X G sc_is_in k_is_in (fun _ _ _ _ _ _ us hl => match us, hl with | [_, _], _ => rfl) a7 l7 c7 k7,
    def_mk X G sc_cells_in k_cells_in (fun _ _ _ _ _ _ us hl => match us, hl with | [_], _ => rfl) a8 l8 c8 k8,
    def_mk X G sc_row_from k_row_from (fun _ _ _ _ _ _ us hl => match us, hl with | [_, _, _], _ => rfl) a9 l9 c9 k9,
    def_mk X G sc_rows_in k_rows_in (fun _ _ _ _ _ _ us hl => match us, hl with | [_, _], _ => rfl) a10 l10 c10 k10,
    def_mk X G sc_fits_marks k_fits_marks (fun _ _ _ _ _ _ us hl => match us, hl with | [_, _], _ => rfl) a11 l11 c11 k11,
    def_mk X G sc_need_marks k_need_marks (fun _ _ _ _ _ _ us hl => match us, hl with | [_, _, _], _ => rfl) a12 l12 c12 k12,
    def_mk X G sc_need_few k_need_few (fun _ _ _ _ _ _ us hl => match us, hl with | [_], _ => rfl) a13 l13 c13 k13,
    def_mk X G sc_hits_in k_hits_in (fun _ _ _ _ _ _ us hl => match us, hl with | [_, _], _ => rfl) a14 l14 c14 k14,
    def_mk X G sc_fewest_in k_fewest_in (fun _ _ _ _ _ _ us hl => match us, hl with | [_, _], _ => rfl) a15 l15 c15 k15,
    def_mk X G sc_most_in k_most_in (fun _ _ _ _ _ _ us hl => match us, hl with | [_, _], _ => rfl) a16 l16 c16 k16,
    def_mk X G sc_full_rows k_full_rows (fun _ _ _ _ _ _ us hl => match us, hl with | [_, _, _], _ => rfl) a17 l17 c17 k17,
    def_mk X G sc_open_rows k_open_rows (fun _ _ _ _ _ _ us hl => match us, hl with | [_, _, _], _ => rfl) a18 l18 c18 k18,
    def_mk X G sc_fewest_meeting k_fewest_meeting (fun _ _ _ _ _ _ us hl => match us, hl with | [_, _], _ => rfl) a19 l19 c19 k19,
    def_mk X G sc_first_meeting k_first_meeting (fun _ _ _ _ _ _ us hl => match us, hl with | [_, _], _ => rfl) a20 l20 c20 k20,
    def_mk X G sc_most_marks k_most_marks (fun _ _ _ _ _ _ us hl => match us, hl with | [_, _], _ => rfl) a21 l21 c21 k21,
    def_mk X G sc_some_marks k_some_marks (fun _ _ _ _ _ _ us hl => match us, hl with | [_, _], _ => rfl) a22 l22 c22 k22,
    def_mk X G sc_law_cup k_law_cup (fun _ _ _ _ _ _ us hl => match us, hl with | [_], _ => rfl) a23 l23 c23 k23,
    def_mk X G sc_law_roll k_law_roll (fun _ _ _ _ _ _ us hl => match us, hl with | [_, _], _ => rfl) a24 l24 c24 k24,
    def_mk X G sc_law_some k_law_some (fun _ _ _ _ _ _ us hl => match us, hl with | [_, _], _ => rfl) a25 l25 c25 k25,
    def_mk X G sc_law_same k_law_same (fun _ _ _ _ _ _ us hl => match us, hl with | [_, _], _ => rfl) a26 l26 c26 k26,
    def_mk X G sc_law_cells k_law_cells (fun _ _ _ _ _ _ us hl => match us, hl with | [_], _ => rfl) a27 l27 c27 k27,
    def_mk X G sc_law_rows k_law_rows (fun _ _ _ _ _ _ us hl => match us, hl with | [_, _], _ => rfl) a28 l28 c28 k28,
    def_mk X G sc_law_first k_law_first (fun _ _ _ _ _ _ us hl => match us, hl with | [_, _], _ => rfl) a29 l29 c29 k29,
    def_mk X G sc_law k_law (fun _ _ _ _ _ _ us hl => match us, hl with | [_], _ => rfl) a30 l30 c30 k30, trivial⟩
  have C : ConsOk K mg conN cons := ⟨con_mk X G (by decide +kernel) x0 y0, con_mk X G (by decide +kernel) x1 y1, con_mk X G (by decide +kernel) x2 y2, con_mk X G (by decide +kernel) x3 y3, trivial⟩
  have M : ModOk w K mg fnN conN cons fns := mod_mk X G D C z
  exact law_mk (n := 13) X G M (il := 30) rfl sc_law k_law (fun _ _ _ _ _ _ us hl => match us, hl with | [_], _ => rfl) a30 l30 c30 k30 hfa
end G94
open PySem PySem.W PyProof.Rows
set_option maxHeartbeats 0 in
theorem PySem.Challenge.cw_cubeyard_k94_whole_fewest_cells_that_mee_holds : PySem.Challenge.rw_cubeyard_k94_whole_fewest_cells_that_mee.Holds := by
  w_on; o_law; k_head; (case hw => w_witness2)
  k_fill
  refine L2.walk_of (l := PySem.Challenge.rw_cubeyard_k94_whole_fewest_cells_that_mee) (n := 63) (k := 14) (x := "script") (CX := fun _ => L2.CX0) (sp := fun w => Ky.spF _ w (Ky.run G94.cons G94.fns 14 30) 1) rfl (by decide) rfl ⟨rfl, by decide, by decide⟩ (fun w h Y => PySem.W.kIn_of Y) ?F (fun w H a ns hl _ hS => let ⟨_, e⟩ := G94.law_true ns hl; Ky.sp_law e hS) (fun _ _ _ _ _ h => h)
  case F =>
    intro w mg fa h KX G hmg
    refine' G94.all_mk KX G hmg ?a0 ?l0 ?c0 ?k0 ?a1 ?l1 ?c1 ?k1 ?a2 ?l2 ?c2 ?k2 ?a3 ?l3 ?c3 ?k3 ?a4 ?l4 ?c4 ?k4 ?a5 ?l5 ?c5 ?k5 ?a6 ?l6 ?c6 ?k6 ?a7 ?l7 ?c7 ?k7 ?a8 ?l8 ?c8 ?k8 ?a9 ?l9 ?c9 ?k9 ?a10 ?l10 ?c10 ?k10 ?a11 ?l11 ?c11 ?k11 ?a12 ?l12 ?c12 ?k12 ?a13 ?l13 ?c13 ?k13 ?a14 ?l14 ?c14 ?k14 ?a15 ?l15 ?c15 ?k15 ?a16 ?l16 ?c16 ?k16 ?a17 ?l17 ?c17 ?k17 ?a18 ?l18 ?c18 ?k18 ?a19 ?l19 ?c19 ?k19 ?a20 ?l20 ?c20 ?k20 ?a21 ?l21 ?c21 ?k21 ?a22 ?l22 ?c22 ?k22 ?a23 ?l23 ?c23 ?k23 ?a24 ?l24 ?c24 ?k24 ?a25 ?l25 ?c25 ?k25 ?a26 ?l26 ?c26 ?k26 ?a27 ?l27 ?c27 ?k27 ?a28 ?l28 ?c28 ?k28 ?a29 ?l29 ?c29 ?k29 ?a30 ?l30 ?c30 ?k30 ?x0 ?y0 ?x1 ?y1 ?x2 ?y2 ?x3 ?y3 ?z
    (case a0 => k_is); (case l0 => k_is); (case c0 => k_is); (case k0 => k_is); (case a1 => k_is); (case l1 => k_is); (case c1 => k_is); (case k1 => k_is); (case a2 => k_is); (case l2 => k_is); (case c2 => k_is); (case k2 => k_is); (case a3 => k_is); (case l3 => k_is); (case c3 => k_is); (case k3 => k_is); (case a4 => k_is); (case l4 => k_is); (case c4 => k_is); (case k4 => k_is); (case a5 => k_is); (case l5 => k_is); (case c5 => k_is); (case k5 => k_is); (case a6 => k_is); (case l6 => k_is); (case c6 => k_is); (case k6 => k_is); (case a7 => k_is); (case l7 => k_is); (case c7 => k_is); (case k7 => k_is); (case a8 => k_is); (case l8 => k_is); (case c8 => k_is); (case k8 => k_is); (case a9 => k_is); (case l9 => k_is); (case c9 => k_is); (case k9 => k_is); (case a10 => k_is); (case l10 => k_is); (case c10 => k_is); (case k10 => k_is); (case a11 => k_is); (case l11 => k_is); (case c11 => k_is); (case k11 => k_is); (case a12 => k_is); (case l12 => k_is); (case c12 => k_is); (case k12 => k_is); (case a13 => k_is); (case l13 => k_is); (case c13 => k_is); (case k13 => k_is); (case a14 => k_is); (case l14 => k_is); (case c14 => k_is); (case k14 => k_is); (case a15 => k_is); (case l15 => k_is); (case c15 => k_is); (case k15 => k_is); (case a16 => k_is); (case l16 => k_is); (case c16 => k_is); (case k16 => k_is); (case a17 => k_is); (case l17 => k_is); (case c17 => k_is); (case k17 => k_is); (case a18 => k_is); (case l18 => k_is); (case c18 => k_is); (case k18 => k_is); (case a19 => k_is); (case l19 => k_is); (case c19 => k_is); (case k19 => k_is); (case a20 => k_is); (case l20 => k_is); (case c20 => k_is); (case k20 => k_is); (case a21 => k_is); (case l21 => k_is); (case c21 => k_is); (case k21 => k_is); (case a22 => k_is); (case l22 => k_is); (case c22 => k_is); (case k22 => k_is); (case a23 => k_is); (case l23 => k_is); (case c23 => k_is); (case k23 => k_is); (case a24 => k_is); (case l24 => k_is); (case c24 => k_is); (case k24 => k_is); (case a25 => k_is); (case l25 => k_is); (case c25 => k_is); (case k25 => k_is); (case a26 => k_is); (case l26 => k_is); (case c26 => k_is); (case k26 => k_is); (case a27 => k_is); (case l27 => k_is); (case c27 => k_is); (case k27 => k_is); (case a28 => k_is); (case l28 => k_is); (case c28 => k_is); (case k28 => k_is); (case a29 => k_is); (case l29 => k_is); (case c29 => k_is); (case k29 => k_is); (case a30 => k_is); (case l30 => k_is); (case c30 => k_is); (case k30 => k_is); (case x0 => k_is); (case y0 => kernel_rfl); (case x1 => k_is); (case y1 => kernel_rfl); (case x2 => k_is); (case y2 => kernel_rfl); (case x3 => k_is); (case y3 => kernel_rfl); (case z => kernel_rfl)

