import PyProof.Rows.All
import Wide.All
import OpenK.AllK
import Wide.FinOn
import HandS.ForMost
import HandS.Exc
import HandS.ExcOwn
import HandS.WordsExc
import HandS.Star
import HandS.CallSlots
import HandS.TupAny
import HandS.TupMul
import HandS.Deep
import HandS.IsInst
import HandS.FStr
import HandS.TryMany
import KE.KDictKeyed
import KE.KDictLaw
import PyProof.NeData
import PyProof.P3In
import HandS.Dict
import HandS.SetKeys
import HandS.TupLen
import KE.KDictCopyH
import KE.KDictPairs
import KE.KDictZip
import KE.SortKeyHeap
import KE.DatumOrd
import HandS.Conv
import KE.KDictSum
import HandS.Sort
import HandS.ExcInit
import HandS.Nested
import KE.KExcSuper
import HandS.ExcField
import HandS.ExcCtx
import HandS.Property
import HandS.More
import KE.KEqDict
import KE.DataEq
import HandS.Codes
import HandS.Strs
import KE.GoesMore
import KE.GoesEnum
import KE.GoesNew
import HandS.Comp
import HandS.List
import HandS.DictComp
import HandS.SetFor
import HandS.TupSets
import KE.GoesZip
import HandS.Zip
import KE.KDictDisplayH
import KE.KTupSum
import HandS.SortKw
import HandS.HeadWalk
import HandS.HotCalls
import PyProof.ConsumeWalk
import PyProof.WalkLemmas
import HandS.ExcIs
import KE.KExcIs
import KE.RegKIsAll
import PySem.Challenge.RW_clauseforms_k13_errors_apart
set_option Elab.async false
set_option linter.all false
set_option maxRecDepth 100000
/-! CFSem -/
/-! A small language: values, syntax, meaning. Plain Lean. -/
namespace CF

inductive D where
  | non | bl (b : Bool) | int (i : Int) | str (x : List Nat) | tup (l : List D) | lst (l : List D) | dct (l : List (D × D)) | ref (n : Nat) | scr (l : List Int)
  deriving Inhabited

mutual
def eqD : D → D → Bool
  | .non, .non => true
  | .bl a, .bl b => a == b
  | .bl a, .int j => (if a then 1 else 0) == j
  | .int i, .bl b => i == (if b then 1 else 0)
  | .int i, .int j => i == j
  | .str x, .str y => x == y
  | .lst xs, .lst ys => eqDs xs ys
  | .tup xs, .tup ys => eqDs xs ys
  | _, _ => false
def eqDs : List D → List D → Bool
  | [], [] => true
  | x :: xs, y :: ys => eqD x y && eqDs xs ys
  | _, _ => false
end

mutual
/-- data of at most so many levels -/
def layN : Nat → D → Bool
  | _, .non => true
  | _, .bl _ => true
  | _, .int _ => true
  | _, .str _ => true
  | 0, .tup _ => false
  | 0, .lst _ => false
  | n + 1, .tup l => layNs n l
  | n + 1, .lst l => layNs n l
  | _, .dct _ => false
  | _, .ref _ => false
  | _, .scr _ => false
def layNs : Nat → List D → Bool
  | _, [] => true
  | n, x :: xs => layN n x && layNs n xs
end
/-- the most levels that are asked of data that is compared -/
def LV : Nat := 60

inductive SO where
  | lst (l : List D) | dct (l : List (D × D)) | lck (l : List (D × D)) | ins (c : Nat) (fs : List (Nat × D))
  deriving Inhabited
abbrev Sto := List SO

/-- a list, a dict of the store, to be read -/
def lstAt (st : Sto) (n : Nat) : Option (List D) := match st[n]? with
  | some (.lst l) => some l
  | _ => none
def dctAt (st : Sto) (n : Nat) : Option (List (D × D)) := match st[n]? with
  | some (.dct d) => some d
  | some (.lck d) => some d
  | _ => none
/-- the longest list, text -/
def SZ : Nat := 16000000

inductive R (α : Type) where
  | ok (a : α) (s : Sto) | exc (c : Nat) (fs : List (Nat × D)) (s : Sto) | bad
  deriving Inhabited
def R.bind {α β : Type} : R α → (α → Sto → R β) → R β
  | .ok a s, f => f a s
  | .exc c fs s, _ => .exc c fs s
  | .bad, _ => .bad
def R.of {α : Type} (o : Option α) (s : Sto) : R α := match o with
  | some a => .ok a s
  | none => .bad

inductive Slot where
  | emp | pu (d : D) | ow (d : D) | ex (c : Nat) (fs : List (Nat × D)) | hd (a c : Nat) (fs : List (Nat × D))
  deriving Inhabited
abbrev Env := List Slot

inductive Op2 where
  | add | sub | mul | mod | fdiv | pow
  deriving DecidableEq
inductive Cm where
  | eq | ne | lt | le | gt | ge | isN | notN | inn | nin
  deriving DecidableEq
/-- built-in functions of values -/
inductive Pr where
  | len | list | tuple | sorted | sortedSum | lenSet | sortedSet | dictOf | dictZip | sum | max | min2 | abs | int | str | all | any | listRange
  deriving DecidableEq
/-- methods of built-in types that change nothing -/
inductive Bm where
  | join | split | strip | index | get
  deriving DecidableEq
/-- methods that change their object -/
inductive Mu where
  | append | extend | pop | popAt | setdefault | update
  deriving DecidableEq
inductive Ty where
  | bool | int | str | tuple | list | dict | own (c : Nat)
  deriving DecidableEq
/-- a target: a name, or a tuple of names -/
inductive Pat where
  | nm (i : Nat) | tp (l : List Nat)
  deriving DecidableEq

mutual
inductive E where
  | var (i : Nat) | cst (d : D) | tup (es : As) | bin (op : Op2) (a b : E) | neg (a : E) | nt (a : E) | and (a b : E) | or (a b : E)
  | cmp (op : Cm) (a b : E) | chn (o1 o2 : Cm) (a b c : E) | ite (c a b : E)
  | call (f : Nat) (es : As) | meth (m : Nat) (o : E) (es : As) | new (c : Nat) (es : As)
  | prm (p : Pr) (es : As) | bme (b : Bm) (o : E) (es : As) | mut (m : Mu) (o : E) (es : As)
  | att (a : Nat) (o : E) | sub (o i : E) | slc (o : E) (lo hi : Oe)
  | fr (f : F) | al (f : F) | isi (o : E) (t : Ty) | fst (es : As) | exf (i : Nat) (a : Nat)
  /-- e in T, T[e], T a dict of the module -/
  | kin (t : List (List Nat × D)) (e : E) | ksb (t : List (List Nat × D)) (e : E)
  /-- proved by hand -/
  | hx (j : Nat)
  /-- never reached -/
  | dead
inductive As where
  | nil | cons (e : E) (es : As) | star (e : E) (es : As)
/-- what makes a new list or dict -/
inductive F where
  | lst (es : As) | cat (a b : E) | cp (p : Pat) (it : I) (c : Oe) (e : E) | cp2 (p : Pat) (it : I) (q : Pat) (it2 : I) (e : E)
  | dn (t : Bool) | dd (x : List Nat) (e : E) | d1 (k v : E) | dcp (p : Pat) (it : I) (k v : E) | pr (p : Pr) (es : As)
inductive Oe where
  | no | so (e : E)
/-- what is walked -/
inductive I where
  | sq (e : E) | rg (es : As) | en (e : E) | ky (i : Nat)
end
mutual
inductive S where
  | asg (p : Pat) (e : E) | par (i j : Nat) (a b : E) | own (i : Nat) (f : F)
  | seta (o : E) (a : Nat) (e : E) | seti (o i e : E) | setiO (x : Nat) (i e : E)
  | aug (i : Nat) (e : E) | auga (o : E) (a : Nat) (e : E) | augiO (x : Nat) (i e : E)
  | mutO (x : Nat) (m : Mu) (es : As) | ex (e : E) | ret (e : E) | retN | frz (x : Nat)
  | cnd (c : E) (a b : Ss) | for (p : Pat) (it : I) (b : Ss) | whl (c : E) (b : Ss)
  | rais (c : Nat) (es : As) | tr (e : E) (hs : Hs) | pass | dead
inductive Ss where
  | nil | cons (s : S) (r : Ss)
/-- the clauses of a try: the class, the slot of its name, and one store -/
inductive Hs where
  | nil | cons (c : Nat) (n : Option Nat) (x : Nat) (e : E) (r : Hs)
end

/-! ### pure operations -/
def szL (l : List D) : Bool := decide (l.length ≤ SZ)
def opAdd : D → D → Option D
  | .int i, .int j => some (.int (i + j))
  | .str x, .str y => if x.length + y.length ≤ SZ then some (.str (x ++ y)) else none
  | .tup x, .tup y => if x.length + y.length ≤ SZ then some (.tup (x ++ y)) else none
  | .lst x, .lst y => if x.length + y.length ≤ SZ then some (.lst (x ++ y)) else none
  | _, _ => none
def small64 (i : Int) : Bool := decide (-(2 ^ 64) < i) && decide (i < 2 ^ 64)
def repL {α : Type} (x : List α) (k : Int) : List α := (List.replicate k.toNat x).flatten
def opInt (f : Int → Int → Option Int) : D → D → Option D
  | .int i, .int j => (f i j).map .int
  | _, _ => none
def mulI (i j : Int) : Option Int := if small64 i || small64 j then some (i * j) else none
def modI (i j : Int) : Option Int := if 0 < j then some (i % j) else none
def divI (i j : Int) : Option Int := if 0 < j ∧ j < 1073741824 then some (i / j) else none
def powI (i j : Int) : Option Int := if 0 ≤ j ∧ j ≤ 1000 ∧ i.natAbs < 1000 then some (i ^ j.toNat) else none
def opMul : D → D → Option D
  | .tup x, .int k => if x.length ≤ 1000 ∧ -1000 ≤ k ∧ k ≤ 1000 then some (.tup (repL x k)) else none
  | .lst x, .int k => if x.length ≤ 1000 ∧ -1000 ≤ k ∧ k ≤ 1000 then some (.lst (repL x k)) else none
  | .str x, .int k => if x.length ≤ 1000 ∧ -1000 ≤ k ∧ k ≤ 1000 then some (.str (repL x k)) else none
  | a, b => opInt mulI a b
def opBin : Op2 → D → D → Option D
  | .add, a, b => opAdd a b
  | .sub, a, b => opInt (fun i j => some (i - j)) a b
  | .mul, a, b => opMul a b
  | .mod, a, b => opInt modI a b
  | .fdiv, a, b => opInt divI a b
  | .pow, a, b => opInt powI a b

/-- equality, where it is served: one side an empty list, or data -/
def opEq : D → D → Option Bool
  | .lst [], .lst l => some l.isEmpty
  | .lst l, .lst [] => some l.isEmpty
  | a, b => if layN LV a && layN LV b then some (eqD a b) else none

def findK (k : D) : List (D × D) → Option D
  | [] => none
  | (a, v) :: r => if eqD a k then some v else findK k r
def putD (k v : D) : List (D × D) → List (D × D)
  | [] => [(k, v)]
  | (a, w) :: r => if eqD a k then (a, v) :: r else (a, w) :: putD k v r
def mergeD (d : List (D × D)) : List (D × D) → List (D × D)
  | [] => d
  | (k, v) :: r => mergeD (putD k v d) r
mutual
/-- what may be a key -/
def keyN : Nat → D → Bool
  | _, .non => true
  | _, .bl _ => true
  | _, .int _ => true
  | _, .str _ => true
  | 0, .tup _ => false
  | n + 1, .tup l => keyNs n l
  | _, .lst _ => false
  | _, .dct _ => false
  | _, .ref _ => false
  | _, .scr _ => false
def keyNs : Nat → List D → Bool
  | _, [] => true
  | n, x :: xs => keyN n x && keyNs n xs
end
def isTup : D → Bool
  | .tup _ => true
  | _ => false
def isStr : D → Bool
  | .str _ => true
  | _ => false
def flatD : D → Bool
  | .lst _ => false
  | .dct _ => false
  | _ => true
/-- keys are all texts, or all tuples -/
def keyOk (d : List (D × D)) (k : D) : Bool := (isStr k && d.all fun p => isStr p.1) || (isTup k && keyN 5 k && d.all fun p => isTup p.1)

def memD (x : D) : List D → Bool
  | [] => false
  | y :: r => eqD y x || memD x r
def opIn (st : Sto) : D → D → Option Bool
  | x, .tup l => if layN LV x && layNs LV l then some (memD x l) else none
  | x, .lst l => if layN LV x && layNs LV l then some (memD x l) else none
  | .str [c], .str y => some (y.contains c)
  | x, .dct d => if keyOk d x then some (findK x d).isSome else none
  | x, .ref n => match dctAt st n with
    | some d => if keyOk d x then some (findK x d).isSome else none
    | none => match lstAt st n with
      | some l => if layN LV x && layNs LV l then some (memD x l) else none
      | none => none
  | _, _ => none
def isNon : D → Bool
  | .non => true
  | _ => false
def opCmp (st : Sto) : Cm → D → D → Option Bool
  | .eq, a, b => opEq a b
  | .ne, a, b => (opEq a b).map (!·)
  | .lt, .int i, .int j => some (decide (i < j))
  | .le, .int i, .int j => some (decide (i ≤ j))
  | .gt, .int i, .int j => some (decide (j < i))
  | .ge, .int i, .int j => some (decide (j ≤ i))
  | .isN, a, .non => some (isNon a)
  | .notN, a, .non => some (!isNon a)
  | .inn, a, b => opIn st a b
  | .nin, a, b => (opIn st a b).map (!·)
  | _, _, _ => none

def ix (n : Nat) (i : Int) : Option Nat := if 0 ≤ i then (if i < n then some i.toNat else none) else if -(n : Int) ≤ i then some (i + n).toNat else none
def at_ {α : Type} (l : List α) (i : Int) : Option α := (ix l.length i).bind fun j => l[j]?
def opSub (st : Sto) : D → D → Option D
  | .tup l, .int i => at_ l i
  | .lst l, .int i => at_ l i
  | .str x, .int i => if x.length ≤ SZ then (at_ x i).map fun c => .str [c] else none
  | .dct d, k => if keyOk d k then findK k d else none
  | .ref n, k => match dctAt st n with
    | some d => if keyOk d k then findK k d else none
    | none => match lstAt st n, k with
      | some l, .int i => at_ l i
      | _, _ => none
  | _, _ => none
def cutI (n d : Nat) : Option Int → Nat
  | none => d
  | some i => if i < 0 then (i + n).toNat else min i.toNat n
def cut {α : Type} (l : List α) (lo hi : Option Int) : List α := (l.drop (cutI l.length 0 lo)).take (cutI l.length l.length hi - cutI l.length 0 lo)
def small62 (i : Int) : Bool := decide (-(2 ^ 62) ≤ i) && decide (i < 2 ^ 62)
def ofI : Option D → Option (Option Int)
  | none => some none
  | some (.int i) => some (some i)
  | some _ => none
def opSlc (st : Sto) (o : D) (lo hi : Option D) : Option D :=
  match ofI lo, ofI hi with
  | some l, some h => match o with
    | .tup x => some (.tup (cut x l h))
    | .lst x => some (.lst (cut x l h))
    | .str x => if x.length ≤ SZ then some (.str (cut x l h)) else none
    | .ref n => (lstAt st n).map fun x => .lst (cut x l h)
    | _ => none
  | _, _ => none

/-! ### order -/
mutual
/-- the two can be compared, place by place -/
def alikeD : D → D → Bool
  | .bl _, .bl _ => true
  | .int _, .int _ => true
  | .str _, .str _ => true
  | .lst x, .lst y => alikeDs x y
  | .tup x, .tup y => alikeDs x y
  | _, _ => false
def alikeDs : List D → List D → Bool
  | x :: xs, y :: ys => alikeD x y && alikeDs xs ys
  | [], _ => true
  | _ :: _, [] => true
end
mutual
/-- texts by their signs, tuples and lists item by item -/
def ltD : D → D → Bool
  | .int i, .int j => decide (i < j)
  | .bl a, .bl b => !a && b
  | .str x, .str y => decide (x < y)
  | .tup x, .tup y => ltDs x y
  | .lst x, .lst y => ltDs x y
  | _, _ => false
def ltDs : List D → List D → Bool
  | _, [] => false
  | [], _ :: _ => true
  | x :: xs, y :: ys => if eqD x y then ltDs xs ys else ltD x y
end
/-- a stable insertion: behind what is not greater -/
def insBy {α : Type} (lt : α → α → Bool) (x : α) : List α → List α
  | [] => [x]
  | y :: r => if lt x y then x :: y :: r else y :: insBy lt x r
def sortBy {α : Type} (lt : α → α → Bool) (l : List α) : List α := l.foldl (fun acc x => insBy lt x acc) []
def isTup1 : D → Bool
  | .tup (_ :: _) => true
  | _ => false
def notTup : D → Bool
  | .tup _ => false
  | _ => true
def sortOk (l : List D) : Bool := (l.all fun a => l.all fun b => alikeD a b) && l.all (fun a => layN LV a) && (l.all isTup1 || l.all notTup)
def dedup : List D → List D
  | [] => []
  | x :: r => x :: (dedup r).filter fun y => !eqD y x

/-! ### built-in functions -/
def intsOf : List D → Option (List Int)
  | [] => some []
  | .int i :: r => (intsOf r).map (i :: ·)
  | _ :: _ => none
def blsOf : List D → Option (List Bool)
  | [] => some []
  | .bl b :: r => (blsOf r).map (b :: ·)
  | _ :: _ => none
def strsOf : List D → Option (List (List Nat))
  | [] => some []
  | .str x :: r => (strsOf r).map (x :: ·)
  | _ :: _ => none
def itemsOf (st : Sto) : D → Option (List D)
  | .lst l => some l
  | .tup l => some l
  | .ref n => lstAt st n
  | _ => none
def listOf (st : Sto) : D → Option (List D)
  | .lst l => some l
  | .ref n => lstAt st n
  | _ => none
def keysOf (st : Sto) : D → Option (List D)
  | .dct d => some (d.map (·.1))
  | .ref n => (dctAt st n).map fun d => d.map (·.1)
  | _ => none
def natStr (n : Nat) : List Nat := (Nat.toDigits 10 n).map Char.toNat
def digit? (x : List Nat) : Option Int := match x with
  | [c] => if 48 ≤ c ∧ c ≤ 57 then some ((c : Int) - 48) else none
  | _ => none
def maxI : Int → List Int → Int
  | m, [] => m
  | m, x :: r => maxI (if m < x then x else m) r
def pairsOf : List D → Option (List (D × D))
  | [] => some []
  | .tup [k, v] :: r => (pairsOf r).map ((k, v) :: ·)
  | _ :: _ => none
def keysOk : List (D × D) → Bool
  | [] => true
  | (k, _) :: r => if isStr k then r.all (fun p => isStr p.1) else isTup k && keyN 5 k && r.all fun p => isTup p.1 && keyN 5 p.1
def rangeD (lo : Int) (n : Nat) : List D := (List.range n).map fun (i : Nat) => .int (lo + i)
def keySum : D → Option Int
  | .tup l => (intsOf l).map List.sum
  | _ => none
def sumD (d : D) : Int := (keySum d).getD 0
def pLen (st : Sto) : List D → Option D
  | [.str x] => if x.length ≤ SZ then some (.int x.length) else none
  | [.dct d] => if d.length ≤ SZ then some (.int d.length) else none
  | [.ref n] => match lstAt st n with
    | some l => some (.int l.length)
    | none => (dctAt st n).bind fun d => if d.length ≤ SZ then some (.int d.length) else none
  | [x] => (itemsOf st x).map fun l => .int l.length
  | _ => none
def pList (st : Sto) : List D → Option D
  | [x] => match keysOf st x with
    | some l => some (.lst l)
    | none => (itemsOf st x).map .lst
  | _ => none
def pTuple (st : Sto) : List D → Option D
  | [x] => (itemsOf st x).map .tup
  | _ => none
/-- one thing alone: it is not compared -/
def oneL : List D → Bool
  | [_] => true
  | _ => false
def pSorted (st : Sto) : List D → Option D
  | [.dct l] => if sortOk (l.map (·.1)) then some (.lst (sortBy ltD (l.map (·.1)))) else none
  | [x] => (listOf st x).bind fun l => if sortOk l then some (.lst (sortBy ltD l)) else if oneL l then some (.lst l) else none
  | _ => none
def pSortedSum (st : Sto) : List D → Option D
  | [x] => (listOf st x).bind fun l => if (l.all fun y => (keySum y).isSome) then some (.lst (sortBy (fun a b => decide (sumD a < sumD b)) l)) else none
  | _ => none
/-- tuples of ints -/
def isTupI : D → Bool
  | .tup l => (intsOf l).isSome
  | _ => false
def tupI : D → List Int
  | .tup l => (intsOf l).getD []
  | _ => []
def dedupI : List (List Int) → List (List Int)
  | [] => []
  | x :: r => x :: (dedupI r).filter fun y => decide (y ≠ x)
def pLenSet (st : Sto) : List D → Option D
  | [x] => (itemsOf st x).bind fun l => if l.all isStr && decide (l.length < 4000) then some (.int (dedup l).length) else (listOf st x).bind fun l => if l.all isTupI && decide (l.length < 64) then some (.int (dedupI (l.map tupI)).length) else none
  | _ => none
def pSortedSet (st : Sto) : List D → Option D
  | [x] => (itemsOf st x).bind fun l => if l.all isStr && decide (l.length < 4000) then some (.lst (sortBy ltD (dedup l))) else none
  | _ => none
def pDictOf (st : Sto) : List D → Option D
  | [x] => (listOf st x).bind fun l => (pairsOf l).bind fun ps => if keysOk ps then some (.dct (mergeD [] ps)) else none
  | _ => none
def pDictZip (st : Sto) : List D → Option D
  | [a, b] => (itemsOf st a).bind fun x => (itemsOf st b).bind fun y => if x.all isStr && (isTup a == isTup b) && decide (x.length ≤ SZ) then some (.dct (mergeD [] (x.zip y))) else none
  | _ => none
def pSum (st : Sto) : List D → Option D
  | [x] => (listOf st x).bind fun l => (intsOf l).map fun is => .int is.sum
  | _ => none
def pMax (st : Sto) : List D → Option D
  | [x] => (itemsOf st x).bind fun l => (intsOf l).bind fun is => match is with
    | [] => none
    | i :: r => some (.int (maxI i r))
  | _ => none
def pMin2 : List D → Option D
  | [.int i, .int j] => some (.int (if j < i then j else i))
  | _ => none
def pAbs : List D → Option D
  | [.int i] => some (.int (if i < 0 then -i else i))
  | _ => none
def pInt : List D → Option D
  | [.int i] => some (.int i)
  | [.bl b] => some (.int (if b then 1 else 0))
  | [.str x] => (digit? x).map .int
  | _ => none
def pStr : List D → Option D
  | [.int i] => if 0 ≤ i ∧ i.natAbs < 10 ^ 100 then some (.str (natStr i.natAbs)) else none
  | _ => none
def pAll (st : Sto) : List D → Option D
  | [x] => (listOf st x).bind fun l => (blsOf l).map fun bs => .bl (bs.all id)
  | _ => none
def pAny (st : Sto) : List D → Option D
  | [x] => (listOf st x).bind fun l => (blsOf l).map fun bs => .bl (bs.any id)
  | _ => none
def pListRange : List D → Option D
  | [.int n] => if 0 ≤ n ∧ n ≤ SZ then some (.lst (rangeD 0 n.toNat)) else none
  | _ => none
def prim (st : Sto) : Pr → List D → Option D
  | .len, ds => pLen st ds
  | .list, ds => pList st ds
  | .tuple, ds => pTuple st ds
  | .sorted, ds => pSorted st ds
  | .sortedSum, ds => pSortedSum st ds
  | .lenSet, ds => pLenSet st ds
  | .sortedSet, ds => pSortedSet st ds
  | .dictOf, ds => pDictOf st ds
  | .dictZip, ds => pDictZip st ds
  | .sum, ds => pSum st ds
  | .max, ds => pMax st ds
  | .min2, ds => pMin2 ds
  | .abs, ds => pAbs ds
  | .int, ds => pInt ds
  | .str, ds => pStr ds
  | .all, ds => pAll st ds
  | .any, ds => pAny st ds
  | .listRange, ds => pListRange ds

def joinW (sep : List Nat) : List (List Nat) → List Nat
  | [] => []
  | [x] => x
  | x :: r => x ++ sep ++ joinW sep r
/-- the pieces between the signs c -/
def splitW (c : Nat) : List Nat → List (List Nat)
  | [] => [[]]
  | d :: r => if d = c then [] :: splitW c r else match splitW c r with
    | [] => [[d]]
    | x :: xs => (d :: x) :: xs
def isSp (c : Nat) : Bool := c == 32
def idxOf (x : D) : List D → Nat → Option Nat
  | [], _ => none
  | y :: r, n => if eqD y x then some n else idxOf x r (n + 1)
/-- printable signs, and no white space but the blank -/
def plainW (x : List Nat) : Bool := x.all fun c => decide (32 ≤ c) && decide (c ≤ 126)
def bJoin (st : Sto) : D → List D → Option D
  | .str s, [x] => (itemsOf st x).bind fun l => (strsOf l).bind fun ws => if (joinW s ws).length ≤ SZ ∧ s.length ≤ 1000 then some (.str (joinW s ws)) else none
  | _, _ => none
def bSplit : D → List D → Option D
  | .str x, [.str [c]] => if x.length ≤ 1000000 ∧ c < 256 then some (.lst ((splitW c x).map .str)) else none
  | _, _ => none
def endsW (x : List Nat) : Bool := match x.getLast? with
  | some c => !isSp c
  | none => true
def bStrip : D → List D → Option D
  | .str x, [] => if plainW x = true ∧ endsW x = true ∧ x.length ≤ SZ then some (.str (x.dropWhile isSp)) else none
  | _, _ => none
def bIndex (st : Sto) (o : D) : List D → Option D
  | [.str x] => (itemsOf st o).bind fun l => if l.all isStr then (idxOf (.str x) l 0).map fun n => .int (n : Nat) else none
  | _ => none
def dctOf (st : Sto) : D → Option (List (D × D))
  | .dct d => some d
  | .ref n => dctAt st n
  | _ => none
def bGet (st : Sto) (o : D) : List D → Option D
  | [k, v] => (dctOf st o).bind fun d => if keyOk d k && flatD v then some ((findK k d).getD v) else none
  | _ => none
def bme (st : Sto) : Bm → D → List D → Option D
  | .join, o, ds => bJoin st o ds
  | .split, o, ds => bSplit o ds
  | .strip, o, ds => bStrip o ds
  | .index, o, ds => bIndex st o ds
  | .get, o, ds => bGet st o ds
/-- a method on the content: its value, the new content -/
def mAppend (l : List D) : List D → Option (D × List D)
  | [x] => if l.length < SZ then some (.non, l ++ [x]) else none
  | _ => none
def mExtend (l : List D) : List D → Option (D × List D)
  | [.lst m] => if l.length + m.length ≤ SZ then some (.non, l ++ m) else none
  | _ => none
def mPop (l : List D) : List D → Option (D × List D)
  | [] => (l[l.length - 1]?).map fun x => (x, l.dropLast)
  | _ => none
def mPopAt (l : List D) : List D → Option (D × List D)
  | [.int i] => if 0 ≤ i ∧ i < l.length then (l[i.toNat]?).map fun x => (x, l.eraseIdx i.toNat) else none
  | _ => none
def muL (m : Mu) (l ds : List D) : Option (D × List D) := match m with
  | .append => mAppend l ds
  | .extend => mExtend l ds
  | .pop => mPop l ds
  | .popAt => mPopAt l ds
  | _ => none
def mSetd (d : List (D × D)) : List D → Option (D × List (D × D))
  | [k, v] => if keyOk d k && decide (d.length < SZ) then (match findK k d with
      | some w => some (w, d)
      | none => some (v, d ++ [(k, v)])) else none
  | _ => none
def mUpdate (d : List (D × D)) : List D → Option (D × List (D × D))
  | [.dct m] => if m.all (fun p => isStr p.1) && d.all (fun p => isStr p.1) && decide (d.length + m.length ≤ SZ) then some (.non, mergeD d m)
    else match m with
      | [(k, y)] => if isTup k && keyN 5 k && d.all (fun p => isTup p.1) && decide (d.length < SZ) then some (.non, putD k y d) else none
      | _ => none
  | _ => none
def muD (m : Mu) (d : List (D × D)) (ds : List D) : Option (D × List (D × D)) := match m with
  | .setdefault => mSetd d ds
  | .update => mUpdate d ds
  | _ => none

structure FDef where
  np : Nat
  nl : Nat
  body : Ss
structure Tab where
  fn : Nat → Option FDef
  meth : Nat → Nat → Option Nat
  init : Nat → Option Nat
  /-- the attributes of a class: fields, properties -/
  att : Nat → Nat → Option (Option Nat)
  eqm : Nat → Option Nat
  lenm : Nat → Option Nat
  sup : Nat → Nat → Bool
  /-- the fields of an exception class -/
  exf : Nat → Option (List Nat)
  /-- the classes that are asked by isinstance -/
  isC : Nat → Bool
  /-- what is proved by hand, evaluated -/
  hx : Nat → Env → Sto → Option D := fun _ _ _ => none

def setNth {α : Type} (l : List α) (i : Nat) (a : α) : List α := l.set i a
def bindPat (p : Pat) (d : D) (env : Env) : Option Env := match p with
  | .nm i => if i < env.length then some (env.set i (.pu d)) else none
  | .tp is => match d with
    | .tup ds => if is.length = ds.length ∧ is.all (· < env.length) then some ((is.zip ds).foldl (fun e q => e.set q.1 (.pu q.2)) env) else none
    | _ => none
def slotsP : Pat → List Nat
  | .nm i => [i]
  | .tp is => is
/-- the slots of a block's own names are empty at its start -/
def wipeE (env : Env) : List Nat → Env
  | [] => env
  | v :: vs => (wipeE env vs).set v .emp
def isOwS : Slot → Bool
  | .ow _ => true
  | _ => false
def notOw (env : Env) (vs : List Nat) : Bool := vs.all fun i => match env[i]? with
  | some s => !isOwS s
  | none => false
def fieldOf (fs : List (Nat × D)) (a : Nat) : Option D := fs.lookup a
def putField (fs : List (Nat × D)) (a : Nat) (d : D) : List (Nat × D) := match fs with
  | [] => [(a, d)]
  | (b, w) :: r => if b = a then (b, d) :: r else (b, w) :: putField r a d

abbrev CallF := Nat → List D → Sto → R D

/-! ### meaning -/
inductive Fl where
  | nx (env : Env) | rt (d : D)
def argEnv (n : Nat) (as : List D) : Env := as.map .pu ++ List.replicate (n - as.length) .emp
/-- a value that may be kept by others -/
def readV (env : Env) (i : Nat) : Option D := match env[i]? with
  | some (.pu d) => some d
  | _ => none
/-- a value that is only looked at -/
def readT (env : Env) (i : Nat) : Option D := match env[i]? with
  | some (.pu d) => some d
  | some (.ow d) => some d
  | _ => none
def isT : D → Option Ty
  | .bl _ => some .bool
  | .int _ => some .int
  | .str _ => some .str
  | .tup _ => some .tuple
  | .lst _ => some .list
  | .dct _ => some .dict
  | _ => none
def isinst (T : Tab) (st : Sto) (d : D) (t : Ty) : Option Bool := match t with
  | .own c => if T.isC c then (match d with
      | .ref n => match st[n]? with
        | some (.lst _) => some false
        | some (.dct _) => some false
        | some (.ins c' _) => if T.isC c' then some (decide (c' = c)) else none
        | _ => none
      | .scr _ => none
      | _ => some false) else none
  | t => match d with
    | .non => some false
    | .ref n => match st[n]? with
      | some (.lst _) => some (decide (t = .list))
      | some (.dct _) => some (decide (t = .dict))
      | _ => none
    | .bl _ => some (decide (t = .bool ∨ t = .int))
    | .int _ => some (decide (t = .int))
    | .str _ => some (decide (t = .str))
    | .tup _ => some (decide (t = .tuple))
    | .lst _ => some (decide (t = .list))
    | .dct _ => some (decide (t = .dict))
    | .scr _ => none
/-- a turn over each item -/
def loopV (f : D → Env → Sto → R Fl) : List D → Env → Sto → R Fl
  | [], env, s => .ok (.nx env) s
  | d :: r, env, s => match f d env s with
    | .ok (.nx env') s' => loopV f r env' s'
    | .ok (.rt v) s' => .ok (.rt v) s'
    | .exc c fs s' => .exc c fs s'
    | .bad => .bad
/-- a turn over each item of a list of the store, as it stands -/
def loopA (f : D → Env → Sto → R Fl) (n : Nat) : Nat → Nat → Env → Sto → R Fl
  | 0, _, _, _ => .bad
  | k + 1, i, env, s => match lstAt s n with
    | none => .bad
    | some l => match l[i]? with
      | none => .ok (.nx env) s
      | some d => match f d env s with
        | .ok (.nx env') s' => loopA f n k (i + 1) env' s'
        | .ok (.rt v) s' => .ok (.rt v) s'
        | .exc c fs s' => .exc c fs s'
        | .bad => .bad
/-- what a comprehension gathers -/
def compV (f : D → Sto → R (List D)) : List D → Sto → R (List D)
  | [], s => .ok [] s
  | d :: r, s => (f d s).bind fun o s1 => (compV f r s1).bind fun l s2 => .ok (o ++ l) s2
def compA (f : D → Sto → R (List D)) (n : Nat) : Nat → Nat → Sto → R (List D)
  | 0, _, _ => .bad
  | k + 1, i, s => match lstAt s n with
    | none => .bad
    | some l => match l[i]? with
      | none => .ok [] s
      | some d => (f d s).bind fun o s1 => (compA f n k (i + 1) s1).bind fun l s2 => .ok (o ++ l) s2
/-- no error leaves a comprehension -/
def noExc {α : Type} : R α → R α
  | .exc _ _ _ => .bad
  | r => r
inductive Src where
  | val (l : List D) | at (n : Nat) (k : Nat)
def compS (f : D → Sto → R (List D)) : Src → Sto → R (List D)
  | .val l, s => compV f l s
  | .at n k, s => compA f n (k + 1) 0 s
def loopS (f : D → Env → Sto → R Fl) : Src → Env → Sto → R Fl
  | .val l, env, s => loopV f l env s
  | .at n k, env, s => loopA f n (k + 1) 0 env s
def enumD (n : Nat) : List D → List D
  | [] => []
  | d :: r => .tup [.int n, d] :: enumD (n + 1) r
def srcOf (st : Sto) : D → Option Src
  | .lst l => some (.val l)
  | .tup l => some (.val l)
  | .scr l => some (.val (l.map .int))
  | .str x => if x.length ≤ SZ then some (.val (x.map fun c => .str [c])) else none
  | .ref n => (lstAt st n).map fun l => .at n l.length
  | .dct l => if l.length ≤ SZ then some (.val (l.map (·.1))) else none
  | _ => none
/-- a dict of the store is locked at its first walk -/
def lockS (st : Sto) (n : Nat) : Sto := match st[n]? with
  | some (.dct l) => st.set n (.lck l)
  | _ => st
def srcR (d : D) (st : Sto) : R Src := match d with
  | .ref n => match dctAt st n with
    | some l => if l.length ≤ SZ then .ok (.val (l.map (·.1))) (lockS st n) else .bad
    | none => R.of (srcOf st (.ref n)) st
  | d => R.of (srcOf st d) st
def rngOf : List D → Option Src
  | [.int n] => if small62 n ∧ n ≤ SZ then some (.val (rangeD 0 n.toNat)) else none
  | [.int a, .int b] => if small62 a ∧ small62 b ∧ b - a ≤ SZ then some (.val (rangeD a (b - a).toNat)) else none
  | _ => none
def okFor (t : Bool) (d : List (D × D)) : Bool := if t then d.all (fun p => isTup p.1) else d.all fun p => isStr p.1

section
variable (T : Tab) (C : CallF)
def asB (r : R D) : R Bool := r.bind fun d s => match d with
  | .bl b => .ok b s
  | _ => .bad
def alloc (st : Sto) (o : SO) : R D := .ok (.ref st.length) (st ++ [o])
def insAt (st : Sto) (n : Nat) : Option (Nat × List (Nat × D)) := match st[n]? with
  | some (.ins c fs) => some (c, fs)
  | _ => none
def newO (c : Nat) (ds : List D) (st : Sto) : R D := match T.init c with
  | none => .bad
  | some f => (C f (.ref st.length :: ds) (st ++ [.ins c []])).bind fun v s => match v with
    | .non => .ok (.ref st.length) s
    | _ => .bad
def eqO (st : Sto) (a b : D) : R D := match a, b with
  | .ref n, .ref m => match insAt st n, insAt st m with
    | some (c, _), some (c', _) => if c = c' then (match T.eqm c with
      | some f => match C f [a, b] st with
        | .ok (.bl r) s => .ok (.bl r) s
        | _ => .bad
      | none => .bad) else .bad
    | _, _ => .bad
  | .ref n, .tup _ => match insAt st n with
    | some (c, _) => (match T.eqm c with
      | some f => match C f [a, b] st with
        | .ok (.bl r) s => .ok (.bl r) s
        | _ => .bad
      | none => .bad)
    | none => .bad
  | _, _ => .bad
/-- == and != of instances go by their own method -/
def isIns (st : Sto) : D → Bool
  | .ref n => (insAt st n).isSome
  | _ => false
/-- dicts with texts for keys, data for values -/
def eqdOk (l : List (D × D)) : Bool := l.all fun p => isStr p.1 && layN LV p.2
def eqDct (l k : List (D × D)) : Bool := l.length == k.length && l.all fun p => match findK p.1 k with
  | some w => eqD p.2 w
  | none => false
/-- a list, a dict of the store beside an empty one; two dicts of the store -/
def refE (st : Sto) (op : Cm) (a b : D) : Option Bool := match a, b with
  | .ref n, .lst [] => if op = .eq then (lstAt st n).map fun l => l.isEmpty else none
  | .ref n, .dct [] => if op = .eq then (dctAt st n).map fun l => l.isEmpty else none
  | .ref n, .ref m => if op = .eq then (dctAt st n).bind fun l => (dctAt st m).bind fun k => if eqdOk l && eqdOk k then some (eqDct l k) else none else none
  | _, _ => none
def cmpR (op : Cm) (a b : D) (st : Sto) : R D :=
  if op = .eq ∧ isIns st a = true then eqO T C st a b else match refE st op a b with
    | some r => .ok (.bl r) st
    | none => (R.of (opCmp st op a b) st).bind fun b s => .ok (.bl b) s
def attR (a : Nat) (o : D) (st : Sto) : R D := match o with
  | .ref n => match insAt st n with
    | some (c, fs) => match T.att c a with
      | some (some f) => noExc (C f [o] st)
      | some none => R.of (fieldOf fs a) st
      | none => .bad
    | none => .bad
  | _ => .bad
/-- the function behind a method's name -/
def methF (m : Nat) (o : D) (st : Sto) : Option Nat := match o with
  | .ref n => match insAt st n with
    | some (c, _) => T.meth c m
    | none => none
  | _ => none
/-- what stands ahead of the dot -/
def bmeOk (b : Bm) (x : D) (st : Sto) : Bool := match b with
  | .join => isStr x
  | .split => isStr x
  | .strip => isStr x
  | .index => (itemsOf st x).isSome
  | .get => (dctOf st x).isSome
def isLm : Mu → Bool
  | .append => true
  | .extend => true
  | .pop => true
  | .popAt => true
  | _ => false
def mutOk (m : Mu) (x : D) (st : Sto) : Bool := match x with
  | .ref n => match st[n]? with
    | some (.lst _) => isLm m
    | some (.dct _) => !isLm m
    | _ => false
  | _ => false
def mutR (m : Mu) (o : D) (ds : List D) (st : Sto) : R D := match o with
  | .ref n => match st[n]? with
    | some (.lst l) => match muL m l ds with
      | some (v, l') => .ok v (st.set n (.lst l'))
      | none => .bad
    | some (.dct d) => match muD m d ds with
      | some (v, d') => .ok v (st.set n (.dct d'))
      | none => .bad
    | _ => .bad
  | _ => .bad
def lenO (st : Sto) (x : D) : R D := match x with
  | .ref n => match insAt st n with
    | some (c, _) => match T.lenm c with
      | some f => match C f [x] st with
        | .ok (.int i) s => if 0 ≤ i ∧ i < 2 ^ 62 then .ok (.int i) s else .bad
        | _ => .bad
      | none => .bad
    | none => .bad
  | _ => .bad
def prmR (p : Pr) (ds : List D) (st : Sto) : R D := match p, ds with
  | .len, [x] => if isIns st x then lenO T C st x else R.of (prim st .len [x]) st
  | _, _ => R.of (prim st p ds) st
mutual
def ev : E → Env → Sto → R D
  | .var i, env, s => R.of (readV env i) s
  | .cst d, _, s => .ok d s
  | .tup es, env, s => (evs es env s).bind fun ds s => if ds.length ≤ SZ then .ok (.tup ds) s else .bad
  | .bin op a b, env, s => (evT a env s).bind fun x s => (evT b env s).bind fun y s => R.of (opBin op x y) s
  | .neg a, env, s => (ev a env s).bind fun x s => match x with
    | .int i => .ok (.int (-i)) s
    | _ => .bad
  | .nt a, env, s => (asB (ev a env s)).bind fun b s => .ok (.bl (!b)) s
  | .and a b, env, s => (asB (ev a env s)).bind fun c s => if c then ev b env s else .ok (.bl false) s
  | .or a b, env, s => (asB (ev a env s)).bind fun c s => if c then .ok (.bl true) s else ev b env s
  | .cmp op a b, env, s => (evT a env s).bind fun x s => (evT b env s).bind fun y s => cmpR T C op x y s
  | .chn o1 o2 a b c, env, s => (ev a env s).bind fun x s => (ev b env s).bind fun y s => (R.of (opCmp s o1 x y) s).bind fun k s =>
      if k then (ev c env s).bind fun z s => (R.of (opCmp s o2 y z) s).bind fun k s => .ok (.bl k) s else .ok (.bl false) s
  | .ite c a b, env, s => (asB (ev c env s)).bind fun k s => if k then ev a env s else ev b env s
  | .call f es, env, s => (evs es env s).bind fun ds s => C f ds s
  | .meth m o es, env, s => (ev o env s).bind fun x s => match methF T m x s with
    | some f => (evs es env s).bind fun ds s => C f (x :: ds) s
    | none => .bad
  | .new c es, env, s => (evs es env s).bind fun ds s => newO T C c ds s
  | .prm p es, env, s => (evTs es env s).bind fun ds s => prmR T C p ds s
  | .bme b o es, env, s => (evT o env s).bind fun x s => if bmeOk b x s then (evTs es env s).bind fun ds s => R.of (bme s b x ds) s else .bad
  | .mut m o es, env, s => (ev o env s).bind fun x s => if mutOk m x s then (evs es env s).bind fun ds s => mutR m x ds s else .bad
  | .att a o, env, s => (ev o env s).bind fun x s => attR T C a x s
  | .sub o i, env, s => (evT o env s).bind fun x s => (ev i env s).bind fun y s => R.of (opSub s x y) s
  | .slc o lo hi, env, s => (evT o env s).bind fun x s => (evO lo env s).bind fun l s => (evO hi env s).bind fun h s => R.of (opSlc s x l h) s
  | .fr f, env, s => evF f env s
  | .al f, env, s => (evF f env s).bind fun d s => match d with
    | .lst l => alloc s (.lst l)
    | .dct l => alloc s (.dct l)
    | _ => .bad
  | .isi o t, env, s => (evT o env s).bind fun x s => (R.of (isinst T s x t) s).bind fun b s => .ok (.bl b) s
  | .fst es, env, s => (noExc (evs es env s)).bind fun ds s => (R.of (strsOf ds) s).bind fun ws s => if ws.flatten.length ≤ SZ then .ok (.str ws.flatten) s else .bad
  | .kin t e, env, s => (ev e env s).bind fun d s => match d with
    | .str w => .ok (.bl (t.lookup w).isSome) s
    | _ => .bad
  | .ksb t e, env, s => (ev e env s).bind fun d s => match d with
    | .str w => R.of (t.lookup w) s
    | _ => .bad
  | .exf i a, env, s => match env[i]? with
    | some (.ex _ fs) => R.of (fieldOf fs a) s
    | _ => .bad
  | .hx j, env, s => if env.all (fun x => !isOwS x) then R.of (T.hx j env s) s else .bad
  | .dead, _, _ => .bad
/-- looked at: a name's own list may be read -/
def evT : E → Env → Sto → R D
  | .var i, env, s => R.of (readT env i) s
  | e, env, s => ev e env s
def evs : As → Env → Sto → R (List D)
  | .nil, _, s => .ok [] s
  | .cons e r, env, s => (ev e env s).bind fun d s => (evs r env s).bind fun ds s => .ok (d :: ds) s
  | .star e r, env, s => (evT e env s).bind fun d s => (R.of (itemsOf s d) s).bind fun l s => (evs r env s).bind fun ds s => .ok (l ++ ds) s
def evTs : As → Env → Sto → R (List D)
  | .nil, _, s => .ok [] s
  | .cons e r, env, s => (evT e env s).bind fun d s => (evTs r env s).bind fun ds s => .ok (d :: ds) s
  | .star _ _, _, _ => .bad
def evO : Oe → Env → Sto → R (Option D)
  | .no, _, s => .ok none s
  | .so e, env, s => (ev e env s).bind fun d s => match d with
    | .int i => .ok (some (.int i)) s
    | _ => .bad
def evC : Oe → Env → Sto → R Bool
  | .no, _, s => .ok true s
  | .so e, env, s => asB (ev e env s)
def evI : I → Env → Sto → R Src
  | .sq e, env, s => (ev e env s).bind fun d s => srcR d s
  | .rg es, env, s => (evTs es env s).bind fun ds s => R.of (rngOf ds) s
  | .en e, env, s => (ev e env s).bind fun d s => match d with
    | .lst l => .ok (.val (enumD 0 l)) s
    | .tup l => .ok (.val (enumD 0 l)) s
    | _ => .bad
  | .ky i, env, s => match readV env i with
    | some (.dct d) => if d.all (fun p => isStr p.1) then .ok (.val (d.map (·.1))) s else .bad
    | _ => .bad
def evF : F → Env → Sto → R D
  | .lst es, env, s => (evs es env s).bind fun ds s => if ds.length ≤ SZ then .ok (.lst ds) s else .bad
  | .cat a b, env, s => (evT a env s).bind fun x s => (evT b env s).bind fun y s => match x, y with
    | .lst l, .lst m => if l.length + m.length ≤ SZ then .ok (.lst (l ++ m)) s else .bad
    | _, _ => .bad
  | .cp p it c e, env, s => (evI it env s).bind fun src s => if notOw env (slotsP p) then (noExc (compS (fun d s => match bindPat p d (wipeE env (slotsP p)) with
      | none => .bad
      | some env' => (evC c env' s).bind fun b s => if b then (ev e env' s).bind fun x s => .ok [x] s else .ok [] s) src s)).bind fun l s => if l.length ≤ SZ then .ok (.lst l) s else .bad else .bad
  | .cp2 p it q it2 e, env, s => (evI it env s).bind fun src s => if notOw env (slotsP p ++ slotsP q) then (noExc (compS (fun d s => match bindPat p d (wipeE env (slotsP p ++ slotsP q)) with
      | none => .bad
      | some env' => (evI it2 env' s).bind fun src2 s => compS (fun d2 s => match bindPat q d2 (wipeE env' (slotsP q)) with
        | none => .bad
        | some env2 => (ev e env2 s).bind fun x s => .ok [x] s) src2 s) src s)).bind fun l s => if l.length ≤ SZ then .ok (.lst l) s else .bad else .bad
  | .dn _, _, s => .ok (.dct []) s
  | .dd x e, env, s => (ev e env s).bind fun d s => .ok (.dct [(.str x, d)]) s
  | .d1 k v, env, s => (ev k env s).bind fun a s => (ev v env s).bind fun b s => if isTup a && keyN 5 a then .ok (.dct [(a, b)]) s else .bad
  | .dcp p it k v, env, s => (evI it env s).bind fun src s => if notOw env (slotsP p) then (noExc (compS (fun d s => match bindPat p d (wipeE env (slotsP p)) with
      | none => .bad
      | some env' => (ev k env' s).bind fun a s => (ev v env' s).bind fun b s => if isStr a then .ok [.tup [a, b]] s else .bad) src s)).bind fun l s =>
        if l.length ≤ SZ then (match pairsOf l with
        | some ps => .ok (.dct (mergeD [] ps)) s
        | none => .bad) else .bad
        else .bad
  | .pr p es, env, s => (evTs es env s).bind fun ds s => R.of (prim s p ds) s
end

def setI (o i v : D) (st : Sto) : R Unit := match o with
  | .ref n => match st[n]? with
    | some (.lst l) => match i with
      | .int k => match ix l.length k with
        | some j => .ok () (st.set n (.lst (l.set j v)))
        | none => .bad
      | _ => .bad
    | some (.dct d) => if keyOk d i ∧ d.length < SZ then .ok () (st.set n (.dct (putD i v d))) else .bad
    | _ => .bad
  | _ => .bad
def setA (o : D) (a : Nat) (v : D) (st : Sto) : R Unit := match o with
  | .ref n => match insAt st n with
    | some (c, fs) => if T.att c a = some none ∧ fs.length < 100 then .ok () (st.set n (.ins c (putField fs a v))) else .bad
    | none => .bad
  | _ => .bad
def addD (x y : D) : Option D := match x, y with
  | .int i, .int j => some (.int (i + j))
  | _, _ => none
/-- the fuel of a while -/
def WF : Nat := 100000
def loopW (c : Env → Sto → R D) (b : Env → Sto → R Fl) : Nat → Env → Sto → R Fl
  | 0, _, _ => .bad
  | k + 1, env, s => (asB (c env s)).bind fun t s => if t then (match b env s with
      | .ok (.nx env') s' => loopW c b k env' s'
      | .ok (.rt v) s' => .ok (.rt v) s'
      | .exc c fs s' => .exc c fs s'
      | .bad => .bad) else .ok (.nx env) s
def nextE (r : R Env) : R Fl := r.bind fun env s => .ok (.nx env) s
/-- a name's own list or dict, written at k -/
def ownSet (d k v : D) : Option D := match d with
  | .dct l => if keyOk l k ∧ l.length < SZ then some (.dct (putD k v l)) else none
  | .lst l => match k with
    | .int i => (ix l.length i).map fun j => .lst (l.set j v)
    | _ => none
  | _ => none
/-- x.m(..), x a name's own -/
def ownStep (m : Mu) (d : D) (ds : List D) : Option D := match d with
  | .lst l => (muL m l ds).map fun p => .lst p.2
  | .dct l => (muD m l ds).map fun p => .dct p.2
  | _ => none
def ownKind (m : Mu) : D → Bool
  | .lst _ => isLm m
  | .dct _ => !isLm m
  | _ => false
def setOw (env : Env) (x : Nat) (d : D) : Env := env.set x (.ow d)
mutual
def ex : S → Env → Sto → R Fl
  | .asg p e, env, s => (ev T C e env s).bind fun d s => match bindPat p d env with
    | some env' => .ok (.nx env') s
    | none => .bad
  | .par i j a b, env, s => (ev T C a env s).bind fun x s => (ev T C b env s).bind fun y s => if i < env.length ∧ j < env.length ∧ i ≠ j then .ok (.nx ((env.set i (.pu x)).set j (.pu y))) s else .bad
  | .own i f, env, s => (evF T C f env s).bind fun d s => if i < env.length then .ok (.nx (env.set i (.ow d))) s else .bad
  | .seta o a e, env, s => (ev T C e env s).bind fun v s => (ev T C o env s).bind fun x s => (setA T x a v s).bind fun _ s => .ok (.nx env) s
  | .seti o i e, env, s => (ev T C e env s).bind fun v s => (ev T C o env s).bind fun x s => (ev T C i env s).bind fun k s => (setI x k v s).bind fun _ s => .ok (.nx env) s
  | .setiO x i e, env, s => match env[x]? with
    | some (.ow d) => (ev T C e env s).bind fun v s => (ev T C i env s).bind fun k s => match ownSet d k v with
      | some d' => .ok (.nx (env.set x (.ow d'))) s
      | none => .bad
    | _ => .bad
  | .aug i e, env, s => match readV env i with
    | none => .bad
    | some x => (ev T C e env s).bind fun y s => (R.of (addD x y) s).bind fun z s => .ok (.nx (env.set i (.pu z))) s
  | .auga o a e, env, s => (ev T C o env s).bind fun x s => match x with
    | .ref n => match insAt s n with
      | some (c, fs) => match fieldOf fs a with
        | some v => if T.att c a = some none then ((ev T C e env s).bind fun y s => (R.of (addD v y) s).bind fun z s => match insAt s n with
            | some (c', fs') => if c' = c ∧ fs'.length < 100 then .ok (.nx env) (s.set n (.ins c (putField fs' a z))) else .bad
            | none => .bad) else .bad
        | none => .bad
      | none => .bad
    | _ => .bad
  | .augiO x i e, env, s => match env[x]? with
    | some (.ow (.dct d)) => (ev T C i env s).bind fun k s => if keyOk d k then (match findK k d with
        | some v => (ev T C e env s).bind fun y s => (R.of (addD v y) s).bind fun z s => match ownSet (.dct d) k z with
          | some d' => .ok (.nx (env.set x (.ow d'))) s
          | none => .bad
        | none => .bad) else .bad
    | _ => .bad
  | .mutO x m es, env, s => match env[x]? with
    | some (.ow d) => if ownKind m d then (evs T C es env s).bind fun ds s => match ownStep m d ds with
      | some d' => .ok (.nx (env.set x (.ow d'))) s
      | none => .bad else .bad
    | _ => .bad
  | .ex e, env, s => (ev T C e env s).bind fun _ s => .ok (.nx env) s
  | .ret e, env, s => (ev T C e env s).bind fun d s => .ok (.rt d) s
  | .retN, _, s => .ok (.rt .non) s
  | .frz x, env, s => match env[x]? with
    | some (.ow d) => .ok (.nx (env.set x (.pu d))) s
    | _ => .bad
  | .cnd c a b, env, s => (asB (ev T C c env s)).bind fun k s => if k then exs a env s else exs b env s
  | .for p it b, env, s => (evI T C it env s).bind fun src s => loopS (fun d env s => match bindPat p d env with
      | some env' => exs b env' s
      | none => .bad) src env s
  | .whl c b, env, s => loopW (ev T C c) (exs b) WF env s
  | .rais c es, env, s => (evs T C es env s).bind fun ds s => match T.exf c with
    | some fs => if fs.length = ds.length then .exc c (fs.zip ds) s else .bad
    | none => .bad
  | .tr e hs, env, s => match ev T C e env s with
    | .ok _ s' => .ok (.nx env) s'
    | .exc c fs s' => if (T.exf c).isSome then exh hs c fs env s' else .bad
    | .bad => .bad
  | .pass, env, s => .ok (.nx env) s
  | .dead, _, _ => .bad
def exs : Ss → Env → Sto → R Fl
  | .nil, env, s => .ok (.nx env) s
  | .cons a r, env, s => match ex a env s with
    | .ok (.nx env') s' => exs r env' s'
    | x => x
/-- the env is the one ahead of the try: the body stores no name -/
def exh : Hs → Nat → List (Nat × D) → Env → Sto → R Fl
  | .nil, c, fs, _, s => .exc c fs s
  | .cons h n x e r, c, fs, env, s => if T.sup c h then
      (match n with
      | some i => if i < env.length ∧ x < env.length ∧ i ≠ x then (ev T C e (env.set i (.ex c fs)) s).bind fun d s => .ok (.nx ((env.set i .emp).set x (.pu d))) s else .bad
      | none => if x < env.length then (ev T C e env s).bind fun d s => .ok (.nx (env.set x (.pu d))) s else .bad) else exh r c fs env s
end
end

def callN (T : Tab) : Nat → CallF
  | 0 => fun _ _ _ => .bad
  | n + 1 => fun f ds s => match T.fn f with
    | none => .bad
    | some fd => if ds.length = fd.np ∧ fd.np ≤ fd.nl then (match exs T (callN T n) fd.body (argEnv fd.nl ds) s with
        | .ok (.rt d) s' => .ok d s'
        | .ok (.nx _) s' => .ok .non s'
        | .exc c fs s' => .exc c fs s'
        | .bad => .bad) else .bad
end CF
/-! CFRel -/
/-! What stands in the model for what stands in the small language. -/
namespace CF
open PySem L2

/-- the ghost: what stands for ever at an address; what the module has; the addresses of the store -/
structure Gh where
  fz : Addr → Option D
  k0 : Addr → Option D
  sc : Option (Addr × List Int)
  mu : List Addr
  /-- dicts that are locked, by their objects -/
  lk : Addr → Option Obj
/-- at a stands d, for ever -/
def Gh.is (g : Gh) (a : Addr) (d : D) : Prop := g.fz a = some d ∨ g.k0 a = some d

def okS (l : List Nat) : Prop := ∀ c ∈ l, c < 0x110000
def toS (l : List Nat) : Str := ⟨l.toArray⟩
def RV (g : Gh) : V → D → Prop
  | .non, .non => True
  | .bl a, .bl b => a = b
  | .int a, .int b => a = b
  | .str x, .str l => x = toS l ∧ okS l
  | .ref a, .tup l => g.is a (.tup l)
  | .ref a, .lst l => g.is a (.lst l)
  | .ref a, .dct l => g.is a (.dct l)
  | .ref a, .ref n => g.mu[n]? = some a
  | .ref a, .scr l => g.sc = some (a, l)
  | _, _ => False
abbrev RVs (g : Gh) : List V → List D → Prop := Paired (RV g)

structure Gh.le (g g' : Gh) : Prop where
  fz : ∀ a d, g.fz a = some d → g'.fz a = some d
  mu : ∀ (n : Nat) a, g.mu[n]? = some a → g'.mu[n]? = some a
  k0 : g'.k0 = g.k0
  sc : g'.sc = g.sc
  lk : ∀ a o, g.lk a = some o → g'.lk a = some o
theorem Gh.le.refl (g : Gh) : Gh.le g g := ⟨fun _ _ h => h, fun _ _ h => h, rfl, rfl, fun _ _ h => h⟩
theorem Gh.le.trans {g g1 g2 : Gh} (a : Gh.le g g1) (b : Gh.le g1 g2) : Gh.le g g2 := ⟨fun x d h => b.fz x d (a.fz x d h), fun n x h => b.mu n x (a.mu n x h), b.k0.trans a.k0, b.sc.trans a.sc, fun x o h => b.lk x o (a.lk x o h)⟩
theorem Gh.le.is {g g' : Gh} (l : Gh.le g g') {a : Addr} {d : D} (h : g.is a d) : g'.is a d := h.elim (fun h => .inl (l.fz _ _ h)) fun h => .inr (by rw [l.k0]; exact h)
theorem RV.mono {g g' : Gh} (l : Gh.le g g') {v : V} {d : D} (h : RV g v d) : RV g' v d := by
  cases v <;> cases d <;> first
    | exact h
    | exact l.is h
    | exact l.mu _ _ h
    | exact l.sc.trans h
theorem pairedMono {α β : Type} {F G : α → β → Prop} (f : ∀ a b, F a b → G a b) {x : List α} {y : List β} (h : Paired F x y) : Paired G x y := Paired.mapP h f
theorem RVs.mono {g g' : Gh} (l : Gh.le g g') {v : List V} {d : List D} (h : RVs g v d) : RVs g' v d := Paired.mapP h fun _ _ => RV.mono l

/-! ### inversion -/
section
variable {g : Gh} {v : V}
theorem RV.non_inv (h : RV g v .non) : v = .non := by cases v <;> first | rfl | exact h.elim
theorem RV.bl_inv {b : Bool} (h : RV g v (.bl b)) : v = .bl b := by
  cases v <;> first
    | (have e : _ = b := h; subst e; rfl)
    | exact h.elim
theorem RV.int_inv {i : Int} (h : RV g v (.int i)) : v = .int i := by
  cases v <;> first
    | (have e : _ = i := h; subst e; rfl)
    | exact h.elim
theorem RV.str_inv {l : List Nat} (h : RV g v (.str l)) : v = .str (toS l) ∧ okS l := by
  cases v <;> first
    | exact ⟨by rw [h.1], h.2⟩
    | exact h.elim
theorem RV.tup_inv {l : List D} (h : RV g v (.tup l)) : ∃ a, v = .ref a ∧ g.is a (.tup l) := by
  cases v <;> first
    | exact ⟨_, rfl, h⟩
    | exact h.elim
theorem RV.lst_inv {l : List D} (h : RV g v (.lst l)) : ∃ a, v = .ref a ∧ g.is a (.lst l) := by
  cases v <;> first
    | exact ⟨_, rfl, h⟩
    | exact h.elim
theorem RV.dct_inv {l : List (D × D)} (h : RV g v (.dct l)) : ∃ a, v = .ref a ∧ g.is a (.dct l) := by
  cases v <;> first
    | exact ⟨_, rfl, h⟩
    | exact h.elim
theorem RV.ref_inv {n : Nat} (h : RV g v (.ref n)) : ∃ a, v = .ref a ∧ g.mu[n]? = some a := by
  cases v <;> first
    | exact ⟨_, rfl, h⟩
    | exact h.elim
theorem RV.scr_inv {l : List Int} (h : RV g v (.scr l)) : ∃ a, v = .ref a ∧ g.sc = some (a, l) := by
  cases v <;> first
    | exact ⟨_, rfl, h⟩
    | exact h.elim
end

/-! ### the world -/
/-- a suite that is proved by hand: the slots of the exception's name and of what it stores; what it may be -/
structure HSt where
  i : Nat
  x : Nat
  ok : List Str → Scope → List Stmt → Bool
structure Wld where
  P : Program
  w : World
  K : PySem.W.Frag
  mg : Str → Option Value
  T : Tab
  cls : Nat → Option Addr
  an : Nat → Str
  f0 : Addr → Option D
  ad : Nat → Addr
  fd : Nat → FuncData
  ps : Nat → List Str
  isG : Nat → Bool
  gn : Nat → Str
  gc : Str → Option D
  /-- dicts of the module -/
  kd : Str → Option (List (List Nat × D))
  cn : Nat → Str
  mn : Nat → Str
  /-- the exceptions' classes -/
  xls : Nat → Option Addr
  /-- suites that are proved by hand -/
  hs : Nat → Option HSt := fun _ => none

mutual
def nkey : D → NestedKey
  | .non => .none
  | .bl b => .num (if b then 1 else 0)
  | .int i => .num i
  | .str l => .text (toS l)
  | .tup l => .tup (nkeys l)
  | .lst _ => .none
  | .dct _ => .none
  | .ref _ => .none
  | .scr _ => .none
def nkeys : List D → List NestedKey
  | [] => []
  | x :: r => nkey x :: nkeys r
end
/-- a dict whose keys are tuples, by its raw entries -/
def DTO (P : Program) (w : World) (a : Addr) (xs : List (NestedKey × Addr × Value)) : HO :=
  .ext fun h => ∃ o es ep, h.get? a = some o ∧ o.ExactDict ∧ o.data = .dict es ep ∧ es.toList = xs.map (entryOfKey (nestedKind P w))
/-- the pairs of a dict with text keys -/
abbrev PK (g : Gh) : List (Key × V) → List (D × D) → Prop := Paired fun p q => (∃ l, q.1 = .str l ∧ p.1 = Sum.inr (toS l) ∧ okS l) ∧ RV g p.2 q.2
/-- .. with tuple keys -/
abbrev PT' (g : Gh) : List (NestedKey × Addr × Value) → List (D × D) → Prop := Paired fun p q => isTup q.1 = true ∧ keyN 5 q.1 = true ∧ p.1 = nkey q.1 ∧ RV g (.ref p.2.1) q.1 ∧ ∃ v, RelV v p.2.2 ∧ RV g v q.2
/-- a dict as it stands at a: its description u -/
def DctD (W : Wld) (g : Gh) (a : Addr) (u : HO) (l : List (D × D)) : Prop :=
  (∃ kvs, u = .dK kvs ∧ PK g kvs l ∧ (kvs.map (·.1)).Nodup) ∨ (∃ xs, u = DTO W.P W.w a xs ∧ PT' g xs l ∧ (xs.map (·.1)).Nodup ∧ (a == sysModules) = false ∧ xs.length ≤ sizeLine ∧ xs ≠ [])
def One (W : Wld) (H : Hp) (g : Gh) (a : Addr) : D → Prop
  | .tup l => ∃ o vs, o.dict = none ∧ H a = some (.frz o (.tup vs)) ∧ RVs g vs l
  | .lst l => ∃ vs, H a = some (.lst vs) ∧ RVs g vs l
  | .dct l => ∃ u, Rd H a u ∧ DctD W g a u l
  | _ => False
/-- what stands at an address of the store -/
def SoR (W : Wld) (H : Hp) (g : Gh) (a : Addr) : SO → Prop
  | .lst l => ∃ vs, H a = some (.lst vs) ∧ RVs g vs l
  | .dct l => ∃ u, H a = some u ∧ DctD W g a u l
  | .lck l => g.fz a = some (.dct l) ∧ ∃ o u, g.lk a = some o ∧ H a = some (.frz o u) ∧ DctD W g a u l
  | .ins c fs => ∃ C dx vs, W.cls c = some C ∧ H a = some (.ins C dx vs) ∧ Paired (fun p q => p.1 = W.an q.1 ∧ RV g p.2 q.2) vs fs
/-- the module's constants -/
def Wld.Ok0 (W : Wld) : Prop := ∀ (a : Addr) d, W.f0 a = some d → ∃ l o its n, d = .tup l ∧ W.K.lookup a = some o ∧ o.dict = none ∧ o.cls = .type "tuple" ∧ o.data = .seq its n ∧ its.size ≤ sizeLine ∧ ∃ vs, Vals vs its.toList ∧ RVs ⟨fun _ => none, W.f0, none, [], fun _ => none⟩ vs l
/-- the script's list -/
def ScR (W : Wld) (H : Hp) (g : Gh) (a : Addr) (l : List Int) : Prop := (a ∉ g.mu ∧ ∃ o, H a = some (.frz o (.lst (l.map V.int)))) ∨ ∀ H' : Hp, SqL W.K H' a (l.map V.int)
/-- the heap part -/
structure HS (W : Wld) (g : Gh) (st : Sto) (H : Hp) : Prop where
  fz : ∀ a d, g.fz a = some d → One W H g a d
  f0 : g.k0 = W.f0
  sc : ∀ a l, g.sc = some (a, l) → ScR W H g a l
  len : g.mu.length = st.length
  nd : g.mu.Nodup
  so : ∀ (n : Nat) o a, st[n]? = some o → g.mu[n]? = some a → SoR W H g a o
  mz : ∀ (n : Nat) a, g.mu[n]? = some a → g.fz a = none ∨ ∃ l, st[n]? = some (.lck l)
  fa : ∀ a d, g.fz a = some d → H a ≠ none
  ma : ∀ a, a ∈ g.mu → H a ≠ none
  lk : ∀ a o, g.lk a = some o → (∃ l, g.fz a = some (.dct l)) ∧ ∃ u, H a = some (.frz o u)
/-- what others left as it was -/
structure Frm (g0 : Gh) (H0 : Hp) (g : Gh) (H : Hp) : Prop where
  le : Gh.le g0 g
  keep : ∀ a o, H0 a = some o → a ∉ g0.mu → H a = some o ∨ (∃ l, g0.fz a = some (.dct l)) ∧ (∀ ob u, o ≠ .frz ob u) ∧ ∃ ob, H a = some (.frz ob o)
  fz : ∀ a, H0 a ≠ none → a ∉ g0.mu → g.fz a = g0.fz a
  mu : ∀ a, H0 a ≠ none → a ∈ g.mu → a ∈ g0.mu
  al : ∀ a, H0 a ≠ none → H a ≠ none
/-- an own list or dict of a name -/
def OwR (W : Wld) (H : Hp) (g : Gh) (a : Addr) : D → Prop
  | .lst l => ∃ vs, H a = some (.lst vs) ∧ RVs g vs l
  | .dct l => ∃ u, H a = some u ∧ DctD W g a u l
  | _ => False
/-- an exception that is held, told by its class and its own dict -/
def ExD (W : Wld) (H : Hp) (g : Gh) (c : Nat) (fs : List (Nat × D)) (cls : Value) (d : Option Addr) : Prop :=
  (∃ C, W.xls c = some C ∧ cls = .ref C) ∧ (fs = [] ∧ d = none ∨ ∃ dx vs, d = some dx ∧ H dx = some (.xd vs) ∧ g.fz dx = none ∧ dx ∉ g.mu ∧ Paired (fun p q => p.1 = W.an q.1 ∧ RV g p.2 q.2) vs fs)
def SlR (W : Wld) (H : Hp) (g : Gh) (H0 : Hp) (x : Option V) : Slot → Prop
  | .emp => True
  | .pu d => ∃ v, x = some v ∧ RV g v d
  | .ow d => ∃ a, x = some (.ref a) ∧ g.fz a = none ∧ a ∉ g.mu ∧ H0 a = none ∧ OwR W H g a d
  | .ex _ _ => True
  | .hd a _ _ => x = some (.ref a)
def isOw : Slot → Bool
  | .ow _ => true
  | _ => false
structure ER (W : Wld) (H : Hp) (g : Gh) (H0 : Hp) (env : Env) (σ : St) : Prop where
  len : env.length = σ.length
  sl : ∀ (i : Nat) s x, env[i]? = some s → σ[i]? = some x → SlR W H g H0 x s
  ap : ∀ (i j : Nat) d e a, env[i]? = some (.ow d) → env[j]? = some (.ow e) → σ[i]? = some (some (.ref a)) → σ[j]? = some (some (.ref a)) → i = j
/-- the whole -/
structure SI (W : Wld) (g0 : Gh) (H0 : Hp) (env : Env) (st : Sto) (g : Gh) (σ : St) (H : Hp) : Prop where
  hs : HS W g st H
  fr : Frm g0 H0 g H
  er : ER W H g H0 env σ

theorem Frm.refl (g : Gh) (H : Hp) : Frm g H g H := ⟨.refl g, fun _ _ h _ => .inl h, fun _ _ _ => rfl, fun _ _ h => h, fun _ h => h⟩
theorem Frm.trans {g0 g1 g2 : Gh} {H0 H1 H2 : Hp} (a : Frm g0 H0 g1 H1) (b : Frm g1 H1 g2 H2) : Frm g0 H0 g2 H2 where
  le := a.le.trans b.le
  keep := fun x o h n => by
    have nm : x ∉ g1.mu := fun m => n (a.mu x (by rw [h]; simp) m)
    rcases a.keep x o h n with q | ⟨⟨l, q1⟩, q2, ob, q3⟩
    · rcases b.keep x o q nm with r | ⟨⟨l, r1⟩, r2, ob, r3⟩
      · exact .inl r
      · exact .inr ⟨⟨l, by rw [← a.fz x (by rw [h]; simp) n]; exact r1⟩, r2, ob, r3⟩
    · rcases b.keep x _ q3 nm with r | ⟨_, r2, _⟩
      · exact .inr ⟨⟨l, q1⟩, q2, ob, r⟩
      · exact absurd rfl (r2 ob o)
  fz := fun x h n => (b.fz x (a.al x h) fun m => n (a.mu x h m)).trans (a.fz x h n)
  mu := fun x h m => a.mu x h (b.mu x (a.al x h) m)
  al := fun x h => b.al x (a.al x h)
end CF
/-! CFHeap -/
/-! How the relation goes on. -/
namespace CF
open PySem L2
section
variable {W : Wld} {H H' : Hp} {g g' : Gh} {st st' : Sto} {a p : Addr} {d : D} {o u : HO}

theorem rd_at (e : H' a = H a) (h : Rd H a u) : Rd H' a u := h.elim (fun h => .inl (e.trans h)) fun ⟨o, h⟩ => .inr ⟨o, e.trans h⟩
theorem sqT_at {vs : List V} (e : H' a = H a) (h : SqT W.K H a vs) : SqT W.K H' a vs := h.elim (fun h => .inl (rd_at e h)) .inr
theorem sqL_at {vs : List V} (e : H' a = H a) (h : SqL W.K H a vs) : SqL W.K H' a vs := h.elim (fun h => .inl (rd_at e h)) .inr
theorem DctD.mono (l : Gh.le g g') {kv : List (D × D)} (h : DctD W g a u kv) : DctD W g' a u kv := by
  rcases h with ⟨kvs, e, p, n⟩ | ⟨xs, e, p, n⟩
  · exact .inl ⟨kvs, e, Paired.mapP p fun x y z => ⟨z.1, z.2.mono l⟩, n⟩
  · exact .inr ⟨xs, e, Paired.mapP p fun x y z => ⟨z.1, z.2.1, z.2.2.1, z.2.2.2.1.mono l, z.2.2.2.2.elim fun v q => ⟨v, q.1, q.2.mono l⟩⟩, n⟩
theorem One.at (e : H' a = H a) (l : Gh.le g g') (h : One W H g a d) : One W H' g' a d := by
  cases d with
  | tup x => exact h.elim fun o q => q.elim fun vs q => ⟨o, vs, q.1, e.trans q.2.1, q.2.2.mono l⟩
  | lst x => exact h.elim fun vs q => ⟨vs, e.trans q.1, q.2.mono l⟩
  | dct x => exact h.elim fun u q => ⟨u, rd_at e q.1, q.2.mono l⟩
  | _ => exact h.elim
theorem SoR.at {x : SO} (e : H' a = H a) (l : Gh.le g g') (h : SoR W H g a x) : SoR W H' g' a x := by
  cases x with
  | lst x => exact h.elim fun vs q => ⟨vs, e.trans q.1, q.2.mono l⟩
  | dct x => exact h.elim fun u q => ⟨u, e.trans q.1, q.2.mono l⟩
  | lck x => exact ⟨l.fz _ _ h.1, h.2.elim fun o q => q.elim fun u q => ⟨o, u, l.lk _ _ q.1, e.trans q.2.1, q.2.2.mono l⟩⟩
  | ins c fs =>
    obtain ⟨C, dx, vs, h1, h2, h3⟩ := h
    exact ⟨C, dx, vs, h1, e.trans h2, Paired.mapP h3 fun x y z => ⟨z.1, z.2.mono l⟩⟩
theorem OwR.at (e : H' a = H a) (l : Gh.le g g') (h : OwR W H g a d) : OwR W H' g' a d := by
  cases d with
  | lst x => exact h.elim fun vs q => ⟨vs, e.trans q.1, q.2.mono l⟩
  | dct x => exact h.elim fun u q => ⟨u, e.trans q.1, q.2.mono l⟩
  | _ => exact h.elim
theorem OwR.one (h : OwR W H g a d) : One W H g a d := by
  cases d with
  | lst x => exact h.elim fun vs q => ⟨vs, q.1, q.2⟩
  | dct x => exact h.elim fun u q => ⟨u, .of q.1, q.2⟩
  | _ => exact h.elim
theorem OwR.some (h : OwR W H g a d) : H a ≠ none := by
  cases d with
  | lst x => exact h.elim fun vs q => by rw [q.1]; simp
  | dct x => exact h.elim fun u q => by rw [q.1]; simp
  | _ => exact h.elim

/-- the script stays -/
theorem ScR.at {l : List Int} (h : ScR W H g a l) (k : ∀ o u, a ∉ g.mu → H a = some (.frz o u) → H' a = some (.frz o u)) (m : ∀ o u, H a = some (.frz o u) → a ∈ g'.mu → a ∈ g.mu) : ScR W H' g' a l :=
  h.imp (fun ⟨n, o, e⟩ => ⟨fun z => n (m _ _ e z), o, k _ _ n e⟩) id
theorem ScR.sq {l : List Int} (h : ScR W H g a l) : SqL W.K H a (l.map V.int) := h.elim (fun ⟨_, o, e⟩ => .inl (.inr ⟨o, e⟩)) fun q => q H
/-! ### fresh addresses -/
theorem neN (q : H a ≠ none) (hp : H p = none) : a ≠ p := fun e => q (by rw [e]; exact hp)
theorem neM {l : List Addr} (q : a ∈ l) (m : p ∉ l) : a ≠ p := fun e => m (by rw [← e]; exact q)
theorem HS.nofz (h : HS W g st H) (hp : H p = none) : g.fz p = none := by
  cases e : g.fz p with
  | none => rfl
  | some d => exact absurd hp (h.fa p d e)
theorem HS.nomu (h : HS W g st H) (hp : H p = none) : p ∉ g.mu := fun m => h.ma p m hp
/-- something new that stands for ever -/
def Gh.addF (g : Gh) (p : Addr) (d : D) : Gh := { g with fz := fun a => if a = p then some d else g.fz a }
theorem addF_le (n : g.fz p = none) : Gh.le g (g.addF p d) := ⟨fun a e h => by
  show (if a = p then _ else _) = _
  by_cases ha : a = p
  · rw [ha, n] at h; cases h
  · rw [if_neg ha]; exact h, fun _ _ h => h, rfl, rfl, fun _ _ h => h⟩
theorem addF_at : (g.addF p d).fz p = some d := if_pos rfl
theorem addF_is : (g.addF p d).is p d := .inl addF_at
theorem addF_ne {b : Addr} (h : b ≠ p) : (g.addF p d).fz b = g.fz b := if_neg h
/-- what stands at p is told as standing for ever -/
theorem HS.freeze (h : HS W g st H) (n : g.fz p = none) (m : p ∉ g.mu) (one : One W H g p d) (s : H p ≠ none) : HS W (g.addF p d) st H where
  fz := fun a e q => by
    by_cases ha : a = p
    · subst ha; rw [addF_at] at q; cases q; exact one.at rfl (addF_le n)
    · rw [addF_ne ha] at q; exact (h.fz a e q).at rfl (addF_le n)
  f0 := h.f0
  sc := fun a l e => (h.sc a l e).at (fun _ _ _ q => q) fun _ _ _ q => q
  len := h.len
  nd := h.nd
  so := fun i x a e1 e2 => (h.so i x a e1 e2).at rfl (addF_le n)
  mz := fun i a q => by rw [addF_ne (neM (l := g.mu) (List.mem_of_getElem? q) m)]; exact h.mz i a q
  fa := fun a e q => by
    by_cases ha : a = p
    · rw [ha]; exact s
    · rw [addF_ne ha] at q; exact h.fa a e q
  ma := h.ma
  lk := fun a o q => by
    obtain ⟨⟨l, q1⟩, q2⟩ := h.lk a o q
    exact ⟨⟨l, by rw [addF_ne fun z => by rw [z, n] at q1; cases q1]; exact q1⟩, q2⟩
/-- something new is laid; nothing is told of it -/
theorem HS.lay (h : HS W g st H) (hp : H p = none) : HS W g st (upd H p o) := by
  have ne : ∀ a, H a ≠ none → upd H p o a = H a := fun a q => upd_ne fun e => q (e ▸ hp)
  exact ⟨fun a e q => (h.fz a e q).at (ne a (h.fa a e q)) (.refl g), h.f0, fun a l e => (h.sc a l e).at (fun o u _ q => by rw [ne a (by rw [q]; simp)]; exact q) fun _ _ _ q => q, h.len, h.nd, fun i x a e1 e2 => (h.so i x a e1 e2).at (ne a (h.ma a (List.mem_of_getElem? e2))) (.refl g), h.mz,
    fun a e q => by rw [ne a (h.fa a e q)]; exact h.fa a e q, fun a q => by rw [ne a (h.ma a q)]; exact h.ma a q, fun a o q => ⟨(h.lk a o q).1, by obtain ⟨u, e⟩ := (h.lk a o q).2; exact ⟨u, by rw [ne a (by rw [e]; simp)]; exact e⟩⟩⟩
theorem Frm.lay (hp : H p = none) : Frm g H g (upd H p o) where
  le := .refl g
  keep := fun a x e _ => .inl (by rw [upd_ne (ne_of_none e hp)]; exact e)
  fz := fun _ _ _ => rfl
  mu := fun _ _ h => h
  al := fun a q => by rw [upd_ne (neN q hp)]; exact q
theorem Frm.layF (hp : H p = none) (n : g.fz p = none) : Frm g H (g.addF p d) (upd H p o) where
  le := addF_le n
  keep := fun a x e _ => .inl (by rw [upd_ne (ne_of_none e hp)]; exact e)
  fz := fun a q _ => addF_ne fun e => q (e ▸ hp)
  mu := fun _ _ h => h
  al := fun a q => by rw [upd_ne (neN q hp)]; exact q
theorem HS.layF (h : HS W g st H) (hp : H p = none) (one : One W (upd H p o) g p d) : HS W (g.addF p d) st (upd H p o) :=
  (h.lay hp).freeze (h.nofz hp) (h.nomu hp) one (by rw [upd_same]; simp)

/-! ### the store -/
def Gh.addS (g : Gh) (p : Addr) : Gh := { g with mu := g.mu ++ [p] }
theorem addS_le : Gh.le g (g.addS p) := ⟨fun _ _ h => h, fun n a h => by
  show (g.mu ++ [p])[n]? = some a
  rw [List.getElem?_append_left (List.getElem?_eq_some_iff.mp h).1]; exact h, rfl, rfl, fun _ _ h => h⟩
theorem addS_at (h : HS W g st H) : (g.addS p).mu[st.length]? = some p := by
  show (g.mu ++ [p])[st.length]? = some p
  rw [← h.len]; simp
/-- what stands at p comes into the store -/
theorem HS.stored {x : SO} (h : HS W g st H) (n : g.fz p = none) (m : p ∉ g.mu) (so : SoR W H g p x) (s : H p ≠ none) (nf : ∀ o u, H p ≠ some (.frz o u)) : HS W (g.addS p) (st ++ [x]) H where
  fz := fun a e q => (h.fz a e q).at rfl addS_le
  f0 := h.f0
  sc := fun a l e => (h.sc a l e).at (fun _ _ _ q => q) fun o u z q => by
    have q' : a ∈ g.mu ++ [p] := q
    rcases List.mem_append.mp q' with q' | q'
    · exact q'
    · simp at q'; rw [q'] at z; exact absurd z (nf o u)
  len := by show (g.mu ++ [p]).length = _; simp [h.len]
  nd := by
    show (g.mu ++ [p]).Nodup
    rw [List.nodup_append]
    exact ⟨h.nd, by simp, fun a ha b hb e => by simp at hb; subst hb; subst e; exact m ha⟩
  so := fun i y a e1 e2 => by
    have e2' : (g.mu ++ [p])[i]? = some a := e2
    by_cases hi : i < st.length
    · rw [List.getElem?_append_left hi] at e1
      rw [List.getElem?_append_left (by rw [h.len]; exact hi)] at e2'
      exact (h.so i y a e1 e2').at rfl addS_le
    · have hi2 : i = st.length := by
        have := (List.getElem?_eq_some_iff.mp e1).1
        simp at this; omega
      subst hi2
      rw [List.getElem?_append_right (Nat.le_refl _)] at e1
      rw [← h.len, List.getElem?_append_right (Nat.le_refl _)] at e2'
      simp at e1 e2'
      subst e1 e2'
      exact so.at rfl addS_le
  mz := fun i a q => by
    have q' : (g.mu ++ [p])[i]? = some a := q
    by_cases hi : i < st.length
    · rw [List.getElem?_append_left (by rw [h.len]; exact hi)] at q'
      rw [List.getElem?_append_left hi]
      exact h.mz i a q'
    · rw [List.getElem?_append_right (by rw [h.len]; omega)] at q'
      have hi0 : i - g.mu.length = 0 := by
        have := (List.getElem?_eq_some_iff.mp q').1
        simp at this
        omega
      rw [hi0] at q'
      simp at q'
      rw [← q']
      exact .inl n
  fa := h.fa
  ma := fun a q => by
    have q' : a ∈ g.mu ++ [p] := q
    rcases List.mem_append.mp q' with q' | q'
    · exact h.ma a q'
    · simp at q'; rw [q']; exact s
  lk := fun a o q => h.lk a o q
theorem Frm.layS (hp : H p = none) : Frm g H (g.addS p) (upd H p o) where
  le := addS_le
  keep := fun a x e _ => .inl (by rw [upd_ne (ne_of_none e hp)]; exact e)
  fz := fun _ _ _ => rfl
  mu := fun a q m => by
    have m' : a ∈ g.mu ++ [p] := m
    rcases List.mem_append.mp m' with m' | m'
    · exact m'
    · simp at m'; exact absurd (m' ▸ hp) q
  al := fun a q => by rw [upd_ne (neN q hp)]; exact q
/-- an object of the store is changed -/
theorem HS.put {x : SO} {n : Nat} (h : HS W g st H) (hn : g.mu[n]? = some a) (nl : ∀ l, st[n]? ≠ some (.lck l)) (so : SoR W (upd H a o) g a x) : HS W g (st.set n x) (upd H a o) := by
  have ha : a ∈ g.mu := List.mem_of_getElem? hn
  have hf : g.fz a = none := (h.mz n a hn).resolve_right fun ⟨l, e⟩ => nl l e
  have inj : ∀ (i : Nat), g.mu[i]? = some a → i = n := fun i e => by
    obtain ⟨h1, e1⟩ := List.getElem?_eq_some_iff.mp e
    obtain ⟨h2, e2⟩ := List.getElem?_eq_some_iff.mp hn
    exact (List.getElem_inj h.nd).mp (e1.trans e2.symm)
  refine ⟨fun b e q => (h.fz b e q).at (upd_ne fun z => by rw [z, hf] at q; cases q) (.refl g), h.f0, fun b l e => (h.sc b l e).at (fun o u nm q => by rw [upd_ne fun z => nm (by rw [z]; exact ha)]; exact q) fun _ _ _ q => q, by simp [h.len], h.nd, fun i y b e1 e2 => ?_, fun i b e2 => ?_, fun b e q => ?_, fun b q => ?_, fun b e q => ⟨(h.lk b e q).1, by obtain ⟨l, e1⟩ := (h.lk b e q).1; rw [upd_ne fun z => by rw [z, hf] at e1; cases e1]; exact (h.lk b e q).2⟩⟩
  · by_cases hi : i = n
    · subst hi
      rw [hn] at e2; cases e2
      have : i < st.length := by rw [← h.len]; exact (List.getElem?_eq_some_iff.mp hn).1
      rw [List.getElem?_set_self this] at e1; cases e1
      exact so
    · rw [List.getElem?_set_ne (Ne.symm hi)] at e1
      exact (h.so i y b e1 e2).at (upd_ne fun z => hi (inj i (z ▸ e2))) (.refl g)
  · by_cases hi : i = n
    · subst hi
      rw [hn] at e2; cases e2
      exact .inl hf
    · rw [List.getElem?_set_ne (Ne.symm hi)]
      exact h.mz i b e2
  · by_cases z : b = a
    · rw [z, upd_same]; simp
    · rw [upd_ne z]; exact h.fa b e q
  · by_cases z : b = a
    · rw [z, upd_same]; simp
    · rw [upd_ne z]; exact h.ma b q
theorem Frm.put (ha : a ∈ g.mu) : Frm g H g (upd H a o) where
  le := .refl g
  keep := fun b x e m => .inl (by rw [upd_ne (Ne.symm (neM ha m))]; exact e)
  fz := fun _ _ _ => rfl
  mu := fun _ _ h => h
  al := fun b q => by
    by_cases z : b = a
    · rw [z, upd_same]; simp
    · rw [upd_ne z]; exact q
/-- an own thing is changed -/
theorem HS.own (h : HS W g st H) (n : g.fz a = none) (m : a ∉ g.mu) (s : H a ≠ none) (nf : ∀ o u, H a ≠ some (.frz o u)) : HS W g st (upd H a o) := by
  refine ⟨fun b e q => (h.fz b e q).at (upd_ne fun z => by rw [z, n] at q; cases q) (.refl g), h.f0, fun b l e => (h.sc b l e).at (fun o u _ q => by rw [upd_ne fun z => nf o u (by rw [← z]; exact q)]; exact q) fun _ _ _ q => q, h.len, h.nd, fun i y b e1 e2 => (h.so i y b e1 e2).at (upd_ne fun z => m (z ▸ List.mem_of_getElem? e2)) (.refl g), h.mz, fun b e q => ?_, fun b q => ?_, fun b e q => ⟨(h.lk b e q).1, by obtain ⟨l, e1⟩ := (h.lk b e q).1; rw [upd_ne fun z => by rw [z, n] at e1; cases e1]; exact (h.lk b e q).2⟩⟩
  · by_cases z : b = a
    · rw [z, upd_same]; simp
    · rw [upd_ne z]; exact h.fa b e q
  · by_cases z : b = a
    · rw [z, upd_same]; simp
    · rw [upd_ne z]; exact h.ma b q
end

/-! ### the names -/
section
variable {W : Wld} {H H' H0 : Hp} {g g' g0 : Gh} {st st' : Sto} {env : Env} {σ : St}
theorem ER.next (h : ER W H g H0 env σ) (f : Frm g H g' H') : ER W H' g' H0 env σ := by
  refine ⟨h.len, fun i s x e1 e2 => ?_, h.ap⟩
  have q := h.sl i s x e1 e2
  cases s with
  | emp => trivial
  | pu d => exact q.elim fun v z => ⟨v, z.1, z.2.mono f.le⟩
  | ow d =>
    obtain ⟨a, e, n, m, h0, r⟩ := q
    have s := r.some
    have ha : H' a = H a := by
      cases z : H a with
      | none => exact absurd z s
      | some o =>
        rcases f.keep a o z m with q | ⟨⟨l, q⟩, _⟩
        · exact q
        · rw [n] at q; cases q
    exact ⟨a, e, (f.fz a s m).trans n, fun z => m (f.mu a s z), h0, r.at ha f.le⟩
  | ex c fs => trivial
  | hd a c fs => exact q
theorem SI.next (h : SI W g0 H0 env st g σ H) (hs : HS W g' st' H') (f : Frm g H g' H') : SI W g0 H0 env st' g' σ H' := ⟨hs, h.fr.trans f, h.er.next f⟩
theorem SI.readV (h : SI W g0 H0 env st g σ H) {i : Nat} {d : D} (e : readV env i = some d) : ∃ v, σ[i]? = some (some v) ∧ RV g v d := by
  unfold CF.readV at e
  split at e <;> try (cases e; done)
  rename_i d' hd
  cases e
  have hl : i < σ.length := by rw [← h.er.len]; exact (List.getElem?_eq_some_iff.mp hd).1
  obtain ⟨v, e2, r⟩ := h.er.sl i _ _ hd (List.getElem?_eq_getElem hl)
  exact ⟨v, by rw [List.getElem?_eq_getElem hl, e2], r⟩
/-- a value to be looked at: one that stands, or an own one of a name -/
def RT (W : Wld) (g : Gh) (H0 : Hp) (env : Env) (σ : St) (v : V) (d : D) : Prop := RV g v d ∨ ∃ (i : Nat) (a : Addr), v = .ref a ∧ env[i]? = some (.ow d) ∧ σ[i]? = some (some (.ref a))
theorem RT.mono {H0 : Hp} (l : Gh.le g g') {v : V} {d : D} (h : RT W g H0 env σ v d) : RT W g' H0 env σ v d := h.imp (fun h => h.mono l) id
theorem SI.readT (h : SI W g0 H0 env st g σ H) {i : Nat} {d : D} (e : readT env i = some d) : ∃ v, σ[i]? = some (some v) ∧ RT W g H0 env σ v d := by
  unfold CF.readT at e
  split at e <;> try (cases e; done)
  · rename_i d' hd
    cases e
    obtain ⟨v, h1, h2⟩ := h.readV (i := i) (d := d) (by unfold CF.readV; rw [hd])
    exact ⟨v, h1, .inl h2⟩
  · rename_i d' hd
    cases e
    have hl : i < σ.length := by rw [← h.er.len]; exact (List.getElem?_eq_some_iff.mp hd).1
    obtain ⟨a, e2, r⟩ := h.er.sl i _ _ hd (List.getElem?_eq_getElem hl)
    exact ⟨.ref a, by rw [List.getElem?_eq_getElem hl, e2], .inr ⟨i, a, rfl, hd, by rw [List.getElem?_eq_getElem hl, e2]⟩⟩
theorem SI.ownAt (h : SI W g0 H0 env st g σ H) {i : Nat} {a : Addr} {d : D} (e : env[i]? = some (.ow d)) (es : σ[i]? = some (some (.ref a))) : g.fz a = none ∧ a ∉ g.mu ∧ H0 a = none ∧ OwR W H g a d := by
  obtain ⟨b, e2, r⟩ := h.er.sl i _ _ e es
  cases e2
  exact r
theorem rv_k0 {W : Wld} {g : Gh} (h0 : g.k0 = W.f0) {v : V} {d : D} (h : RV ⟨fun _ => none, W.f0, none, [], fun _ => none⟩ v d) : RV g v d := by
  cases v <;> cases d <;> first
    | exact h
    | exact h.elim (fun z => absurd z (by simp)) fun z => .inr (by rw [h0]; exact z)
    | exact absurd (show ([] : List Addr)[_]? = some _ from h) (by simp)
    | exact absurd (show (none : Option (Addr × List Int)) = some _ from h) (by simp)
theorem vals_k0 {W : Wld} {g : Gh} (h0 : g.k0 = W.f0) {vs : List V} {l : List D} (h : RVs ⟨fun _ => none, W.f0, none, [], fun _ => none⟩ vs l) : RVs g vs l := Paired.mapP h fun _ _ => rv_k0 h0
/-- a tuple as it stands: its object bears no dict -/
def TupN (K : PySem.W.Frag) (H : Hp) (a : Addr) (vs : List V) : Prop :=
  (∃ o, o.dict = none ∧ H a = some (.frz o (.tup vs))) ∨ ∃ (o : Obj) (its : Array Value) (n : Nat), K.lookup a = some o ∧ o.dict = none ∧ o.cls = .type "tuple" ∧ o.data = .seq its n ∧ its.size ≤ sizeLine ∧ Vals vs its.toList
theorem TupN.sq {K : PySem.W.Frag} {H : Hp} {a : Addr} {vs : List V} (h : TupN K H a vs) : SqT K H a vs := h.elim (fun ⟨o, _, h⟩ => .inl (.inr ⟨o, h⟩)) fun ⟨o, its, n, h1, _, h3, h4, h5, h6⟩ => .inr ⟨o, its, n, h1, h3, h4, h5, h6⟩
/-- a tuple, read -/
theorem SI.tupN (ok : W.Ok0) (h : SI W g0 H0 env st g σ H) {v : V} {l : List D} (r : RV g v (.tup l)) : ∃ a vs, v = .ref a ∧ TupN W.K H a vs ∧ RVs g vs l := by
  obtain ⟨a, e, q⟩ := r.tup_inv
  subst e
  rcases q with q | q
  · obtain ⟨o, vs, h1, h2, h3⟩ := h.hs.fz a _ q
    exact ⟨a, vs, rfl, .inl ⟨o, h1, h2⟩, h3⟩
  · rw [h.hs.f0] at q
    obtain ⟨l', o, its, n, e, h1, h0, h2, h3, h4, vs, h5, h6⟩ := ok a _ q
    cases e
    exact ⟨a, vs, rfl, .inr ⟨o, its, n, h1, h0, h2, h3, h4, h5⟩, vals_k0 h.hs.f0 h6⟩
theorem SI.tup (ok : W.Ok0) (h : SI W g0 H0 env st g σ H) {v : V} {l : List D} (r : RV g v (.tup l)) : ∃ a vs, v = .ref a ∧ SqT W.K H a vs ∧ RVs g vs l :=
  let ⟨a, vs, h1, h2, h3⟩ := h.tupN ok r
  ⟨a, vs, h1, h2.sq, h3⟩
theorem SI.lstV (ok : W.Ok0) (h : SI W g0 H0 env st g σ H) {v : V} {l : List D} (r : RV g v (.lst l)) : ∃ a vs, v = .ref a ∧ H a = some (.lst vs) ∧ RVs g vs l := by
  obtain ⟨a, e, q⟩ := r.lst_inv
  subst e
  rcases q with q | q
  · obtain ⟨vs, h1, h2⟩ := h.hs.fz a _ q
    exact ⟨a, vs, rfl, h1, h2⟩
  · rw [h.hs.f0] at q
    obtain ⟨l', _, _, _, e, _⟩ := ok a _ q
    cases e
theorem SI.tupT (ok : W.Ok0) (h : SI W g0 H0 env st g σ H) {v : V} {l : List D} (r : RT W g H0 env σ v (.tup l)) : ∃ a vs, v = .ref a ∧ SqT W.K H a vs ∧ RVs g vs l := by
  rcases r with r | ⟨i, a, e, h1, h2⟩
  · exact h.tup ok r
  · exact ((h.ownAt h1 h2).2.2.2 : False).elim
theorem SI.lstT (ok : W.Ok0) (h : SI W g0 H0 env st g σ H) {v : V} {l : List D} (r : RT W g H0 env σ v (.lst l)) : ∃ a vs, v = .ref a ∧ H a = some (.lst vs) ∧ RVs g vs l := by
  rcases r with r | ⟨i, a, e, h1, h2⟩
  · exact h.lstV ok r
  · obtain ⟨vs, q, r⟩ := (h.ownAt h1 h2).2.2.2
    exact ⟨a, vs, e, q, r⟩
theorem SI.dctT (ok : W.Ok0) (h : SI W g0 H0 env st g σ H) {v : V} {l : List (D × D)} (r : RT W g H0 env σ v (.dct l)) : ∃ a u, v = .ref a ∧ Rd H a u ∧ DctD W g a u l := by
  rcases r with r | ⟨i, a, e, h1, h2⟩
  · obtain ⟨a, e, q⟩ := r.dct_inv
    rcases q with q | q
    · obtain ⟨u, h1, h2⟩ := h.hs.fz a _ q
      exact ⟨a, u, e, h1, h2⟩
    · rw [h.hs.f0] at q
      obtain ⟨l', _, _, _, e', _⟩ := ok a _ q
      cases e'
  · obtain ⟨u, q, r⟩ := (h.ownAt h1 h2).2.2.2
    exact ⟨a, u, e, .of q, r⟩
/-- what is not a list or a dict is no name's own -/
theorem SI.flat (h : SI W g0 H0 env st g σ H) {v : V} {d : D} (r : RT W g H0 env σ v d) (hd : ∀ l, d ≠ .lst l) (hd2 : ∀ l, d ≠ .dct l) : RV g v d := by
  rcases r with r | ⟨i, a, e, h1, h2⟩
  · exact r
  · have q := (h.ownAt h1 h2).2.2.2
    cases d <;> first
      | exact absurd rfl (hd _)
      | exact absurd rfl (hd2 _)
      | exact (q : False).elim
theorem SI.at_ (h : SI W g0 H0 env st g σ H) {v : V} {n : Nat} {x : SO} (r : RV g v (.ref n)) (e : st[n]? = some x) : ∃ a, v = .ref a ∧ g.mu[n]? = some a ∧ a ∈ g.mu ∧ SoR W H g a x := by
  obtain ⟨a, e1, q⟩ := r.ref_inv
  exact ⟨a, e1, q, List.mem_of_getElem? q, h.hs.so n x a e q⟩
end
end CF
/-! CFTup -/
/-! Tuples that are made: what stands there bears no dict. -/
namespace CF
open PySem PySem.Spec L2
section
variable {X : Cx} {pins : List (Addr × Obj)} {σ : St} {H : Hp} {s : Shared}
def tupO (its : List Value) : Obj := { cls := .type "tuple", data := .seq its.toArray }
theorem lay_tup {vs : List V} {its : List Value} (I : Inv X pins σ H s) (r : Vals vs its) (hz : vs.length ≤ sizeLine) : Inv X pins σ (upd H s.heap.objs.size (.frz (tupO its) (.tup vs))) { s with heap := s.heap.push (tupO its) } :=
  I.laid (t' := s.toks) (fun _ _ e => Heap.get?_push_of_some _ e) (Nat.le_refl _) ⟨Heap.get?_push_size _ rfl, hz, its, r, ⟨_, Heap.get?_push_size _ rfl, rfl, _, rfl⟩⟩
theorem end_tup {vs : List V} {its : List Value} {Q : VK} (I : Inv X pins σ H s) (r : Vals vs its) (hz : vs.length ≤ sizeLine) (q : ∀ p o, o.dict = none → H p = none → Q (.ref p) (upd H p (.frz o (.tup vs)))) : EP X pins σ Q (.ref s.heap.objs.size) { s with heap := s.heap.push (tupO its) } :=
  ⟨.ref s.heap.objs.size, _, lay_tup I r hz, rfl, q _ _ rfl (I.hok.fresh (Nat.le_refl _))⟩
def tTupN (t : TA) : TE := fun σ H Q => t σ H fun xs H1 => xs.length ≤ sizeLine ∧ ∀ p o, o.dict = none → H1 p = none → Q (.ref p) (upd H1 p (.frz o (.tup xs)))
theorem pe_tupN {es : List Expr} {t : TA} {k} {pos : Pos} (h : PA X es t) : PE X (.Tuple es k pos) (tTupN t) :=
  ⟨fun pins s σ H Q I hq => wpAny_Tuple_spliced (thn (h.run pos pins s σ H _ I hq) fun us s1 ⟨xs, H1, I1, r, z, q⟩ => ⟨by rw [← r.length]; exact z, end_tup I1 r z q⟩)⟩
def rCatN (K : PySem.W.Frag) : R2 := fun x y H Q => ∃ a b xs ys, x = .ref a ∧ y = .ref b ∧ SqT K H a xs ∧ SqT K H b ys ∧ xs.length + ys.length ≤ sizeLine ∧
  (xs = [] → Q (.ref b) H) ∧ (xs ≠ [] → ys = [] → Q (.ref a) H) ∧ (xs ≠ [] → ys ≠ [] → ∀ p o, o.dict = none → H p = none → Q (.ref p) (upd H p (.frz o (.tup (xs ++ ys)))))
theorem op_catN : OpR X (binaryOp .Add) (rCatN X.K) := by
  intro pins s σ H x y v u Q I rx ry ⟨a, b, xs, ys, ex, ey, ha, hb, hz, q0, q1, q2⟩
  subst ex ey
  cases rx
  cases ry
  have ⟨its, r1, p1, _⟩ := I.tuple ha
  have ⟨its2, r2, p2, _⟩ := I.tuple hb
  by_cases hx : xs = []
  · subst hx
    cases r1
    exact cat_tup0 p1 p2 ⟨.ref b, H, I, rfl, q0 rfl⟩
  · refine HT.cat_tup p1 p2 (fun z => hx (r1.nil_iff.mp z)) (fun z => ⟨.ref a, H, I, rfl, q1 hx (r2.nil_iff.mp z)⟩) (fun z => ?_) (by rw [← r1.length, ← r2.length]; exact hz)
    exact end_tup I (r1.append r2) (by rw [List.length_append]; exact hz) (q2 hx fun w => z (r2.nil_iff.mpr w))
def rSlN (K : PySem.W.Frag) : V → Option Int → Option Int → Hp → VK → Prop := fun x lo hi H Q => ∃ a xs, x = .ref a ∧ SqT K H a xs ∧
  (HT.sIx xs.length 0 lo = 0 ∧ HT.sIx xs.length xs.length hi = xs.length → Q (.ref a) H) ∧ (¬ (HT.sIx xs.length 0 lo = 0 ∧ HT.sIx xs.length xs.length hi = xs.length) → ∀ p o, o.dict = none → H p = none → Q (.ref p) (upd H p (.frz o (.tup (cutV xs lo hi)))))
theorem sl_tupN : L2.SlR X (rSlN X.K) := by
  intro pins s σ H x v vl vu lo hi sl Q I rx hs pl pu ⟨a, xs, ex, hx, q1, q2⟩
  subst ex
  cases rx
  have ⟨its, r, ht, hz⟩ := I.tuple hx
  have hlen : its.toArray.size = xs.length := by rw [List.size_toArray]; exact r.length.symm
  refine ⟨"tuple", _, PyProof.Rows.slot_tuple_getitem.lookup, ht.typeIs, ?_⟩
  by_cases hw : HT.sIx xs.length 0 lo = 0 ∧ HT.sIx xs.length xs.length hi = xs.length
  · exact getItem_tuple_whole ht hs pl pu (by rw [hlen]; exact hw) ⟨.ref a, H, I, rfl, q1 hw⟩
  · refine HT.getItem_tuple_cut ht hs pl pu (by rw [hlen]; exact hw) ?_ (by rw [hlen]; exact hz)
    rw [hlen]
    exact end_tup I ((r.drop (HT.sIx xs.length 0 lo)).take (HT.sIx xs.length xs.length hi - HT.sIx xs.length 0 lo)) (Nat.le_trans (cutV_length xs lo hi) hz) (q2 hw)
/-- tuple(a list) -/
theorem call_tupN : CallR X (.type "tuple") (fun xs H Q => ∃ p ys, xs = [.ref p] ∧ SqL X.K H p ys ∧ ∀ l o, o.dict = none → H l = none → Q (.ref l) (upd H l (.frz o (.tup ys)))) := by
  intro pins s σ H xs us Q I rs ⟨p, ys, ex, hq, q⟩
  subst ex
  obtain ⟨u, eu, rx⟩ := vals1 rs
  subst eu
  cases rx
  obtain ⟨its, r, pl, hz⟩ := I.list hq
  have hl := r.length
  refine call_tuple_list pl.isList (fun h' kp => ?_) (by simp only [List.size_toArray]; omega)
  have I1 : Inv X pins σ H { s with heap := h' } := I.kept (t' := s.toks) kp
  exact end_tup (s := { s with heap := h' }) I1 r hz q
end
end CF
/-! CFRep -/
set_option maxHeartbeats 4000000
/-! A tuple repeated, by any number that is not large: one walk of the built-in, its three ends. -/
namespace CF
open PySem PySem.Spec L2 PyProof.Rows
def repA (items : Array Value) (x : Int) : Array Value := (List.replicate x.toNat items).foldl (· ++ ·) #[]
theorem repA_list (vs : List Value) (x : Int) : repA vs.toArray x = (List.replicate x.toNat vs).flatten.toArray := size_rep vs x.toNat
theorem mul_meets (l : Addr) (vs : List Value) (n : Nat) (dd : Option Addr) (sl : Array (Option Value)) (x : Int) (u : Tok) (lo : -1000 ≤ x) (hi : x ≤ 1000) (hn : vs.length ≤ 1000) :
    Meets (Builtin.«tuple.__mul__» ⟨[.ref l, .int x u], []⟩) (fun _ R s => s.heap.get? l = some { cls := .type "tuple", dict := dd, data := .seq vs.toArray n, slots := sl } ∧
      ((vs = [] ∨ x = 1) → R (.ok (.ret (.ref l))) s) ∧ (¬ (vs = [] ∨ x = 1) → R (.ok (.ret (.ref s.heap.objs.size))) { s with heap := s.heap.push (tupO (List.replicate x.toNat vs).flatten) })) :=
  .of_wp fun prog w A R s h => by
    obtain ⟨hp, g, d, tk, os⟩ := s
    obtain ⟨at_l, same, new⟩ := h
    have asIx := AutoSeq1.idx_int
    have emp : vs.toArray.isEmpty = decide (vs = []) := by cases vs <;> rfl
    have small : ¬ ((decide (x < -(2 ^ 63)) || decide (x ≥ 2 ^ 63)) = true) := by
      rw [Bool.or_eq_true, decide_eq_true_eq, decide_eq_true_eq]; omega
    wp_walk using AutoSeq1.wpAny_loadPart' at_l
    rw [if_neg small]
    wp_walk using AutoSeq1.wpAny_loadPart' at_l
    by_cases c : vs = [] ∨ x = 1
    · have t : (vs.toArray.isEmpty || x == 1) = true := by rw [emp, Bool.or_eq_true, decide_eq_true_eq, beq_iff_eq]; exact c
      rw [if_pos t]
      wp_walk using AutoSeq1.wpAny_loadPart' at_l
      exact ⟨_, rfl, same c⟩
    · have t : ¬ ((vs.toArray.isEmpty || x == 1) = true) := by rw [emp, Bool.or_eq_true, decide_eq_true_eq, beq_iff_eq]; exact c
      rw [if_neg t]
      wp_walk using AutoSeq1.wpAny_loadPart' at_l
      have ne : vs.toArray.isEmpty = false := by rw [emp]; exact decide_eq_false fun e => c (.inl e)
      by_cases z : x ≤ 0
      · have t : (decide (x ≤ 0) || vs.toArray.isEmpty) = true := by rw [decide_eq_true z]; rfl
        rw [if_pos t]
        wp_walk using AutoSeq1.wpAny_loadPart' at_l
        have r := new c
        have zero : x.toNat = 0 := by omega
        rw [zero] at r
        exact ⟨_, rfl, r⟩
      · have t : ¬ ((decide (x ≤ 0) || vs.toArray.isEmpty) = true) := by rw [ne, Bool.or_false, decide_eq_true_eq]; exact z
        have few : ((vs.length : Nat) : Int) * x ≤ 1000000 := Int.le_trans (Int.mul_le_mul_of_nonneg_right (show ((vs.length : Nat) : Int) ≤ 1000 by omega) (by omega)) (by omega)
        have len : (List.replicate x.toNat vs).flatten.length ≤ 1000000 := by
          rw [PyProof.Rows.lm_len_rep_flat]
          exact Nat.le_trans (Nat.mul_le_mul (show x.toNat ≤ 1000 by omega) hn) (by omega)
        rw [if_neg t]
        wp_walk using AutoSeq1.wpAny_loadPart' at_l
        rw [if_neg (show ¬ (((vs.toArray.size : Nat) : Int) * x > (2 ^ 63 - 1) / 8) by rw [List.size_toArray]; omega)]
        have room : ¬ (Builtin.Tuple.tupleTooMany (((vs.toArray.size : Nat) : Int) * x) = true) := by
          unfold Builtin.Tuple.tupleTooMany
          rw [List.size_toArray, decide_eq_true_eq, sizeLine_eq]
          omega
        dsimp only
        rw [if_neg room]
        unfold Builtin.Tuple.tupleExact
        rw [show List.foldl (fun x1 x2 => x1 ++ x2) #[] (List.replicate x.toNat vs.toArray) = (List.replicate x.toNat vs).flatten.toArray from repA_list vs x]
        wp_walk using AutoSeq1.wpAny_loadPart' at_l
        rw [if_neg (show ¬ ((List.replicate x.toNat vs).flatten.toArray.size > sizeLine) by rw [List.size_toArray, sizeLine_eq]; omega)]
        dsimp only
        wp_walk using AutoSeq1.wpAny_loadPart' at_l
        exact ⟨_, rfl, new c⟩
/-- x * k, whatever k -/
def rRepN (K : PySem.W.Frag) : R2 := fun x y H Q => ∃ l k xs, x = .ref l ∧ y = .int k ∧ SqT K H l xs ∧ -1000 ≤ k ∧ k ≤ 1000 ∧ xs.length ≤ 1000 ∧
  ((xs = [] ∨ k = 1) → Q (.ref l) H) ∧ (¬ (xs = [] ∨ k = 1) → ∀ p o, o.dict = none → H p = none → Q (.ref p) (upd H p (.frz o (.tup (List.replicate k.toNat xs).flatten))))
theorem op_repN {X : Cx} : OpR X (binaryOp .Mult) (rRepN X.K) := fun pins s σ H x y v u Q I rx ry ⟨l, k, xs, ex, ey, hT, lo, hi, hz, same, new⟩ => by
  subst ex ey
  cases rx
  obtain ⟨t, rfl⟩ := ry
  obtain ⟨its, r, pl, _⟩ := I.tuple hT
  obtain ⟨⟨cl, dd, da, sl⟩, ho, hcl, n, hda⟩ := pl
  cases (show cl = .type "tuple" from hcl)
  cases (show da = .seq its.toArray n from hda)
  have en : its = [] ↔ xs = [] := ⟨fun e => List.eq_nil_of_length_eq_zero (by rw [r.length, e]; rfl), fun e => List.eq_nil_of_length_eq_zero (by rw [← r.length, e]; rfl)⟩
  have fin : (its = [] ∨ k = 1 → EP X pins σ Q (.ref l) s) ∧ (¬ (its = [] ∨ k = 1) → EP X pins σ Q (.ref s.heap.objs.size) { s with heap := s.heap.push (tupO (List.replicate k.toNat its).flatten) }) := by
    refine ⟨fun c => ⟨.ref l, H, I, rfl, same (c.imp en.mp id)⟩, fun c => end_tup I (r.rep k.toNat) ?_ (new fun z => c (z.imp en.mpr id))⟩
    rw [PyProof.Rows.lm_len_rep_flat, sizeLine_eq]
    exact Nat.le_trans (Nat.mul_le_mul (show k.toNat ≤ 1000 by omega) hz) (by omega)
  have isT : s.TypeIs (.ref l) "tuple" := ⟨_, ho, rfl⟩
  refine wpAny_binaryOp_repeat_ref (T := "tuple") (U := "int") (by decide) isT (fun s' => typeIs_int s' k t) noFill_tuple_mul F.fills_int_mul F.slot_int_rmul repeat_tuple F.slot_int_index.lookup ?_
  refine call_meets F.slot_int_rmul (typeIs_int s k t) F.entry_int_rmul (F.args_int_rmul_2 _ _) (int_rmul_tuple k t l its.toArray n dd sl) ⟨ho, rfl, isT, ?_⟩
  exact call_meets F.slot_tuple_mul isT F.entry_tuple_mul (F.args_tuple_mul_2 _ _) (mul_meets l its n dd sl k t lo hi (by rw [← r.length]; exact hz)) ⟨ho, fin⟩
end CF
/-! CFOps -/
/-! Operations on values: what the model does is what the small language says. -/
namespace CF
open PySem L2

/-- what is wanted behind a computation of the small language -/
def Aft {α : Type} (W : Wld) (g0 : Gh) (H0 : Hp) (Wx : WX) (env : Env) (σ : St) (g : Gh) (r : R α) (F : α → Sto → Gh → Hp → Prop) : Prop :=
  match r with
  | .ok a st => ∀ g' H', Gh.le g g' → SI W g0 H0 env st g' σ H' → F a st g' H'
  | .exc c fs st => ∀ cls dd g' H', Gh.le g g' → SI W g0 H0 env st g' σ H' → ExD W H' g' c fs cls dd → Wx cls dd σ H'
  | .bad => False
section
variable {α β : Type} {W : Wld} {g0 : Gh} {H0 : Hp} {Wx : WX} {env : Env} {σ : St} {g g' : Gh} {r : R α} {F F' : α → Sto → Gh → Hp → Prop}
theorem Aft.up (h : Aft W g0 H0 Wx env σ g r F) (l : Gh.le g g') : Aft W g0 H0 Wx env σ g' r F := by
  cases r with
  | ok a st => exact fun g2 H2 l2 si => h g2 H2 (l.trans l2) si
  | exc c fs st => exact fun cls dd g2 H2 l2 si e => h cls dd g2 H2 (l.trans l2) si e
  | bad => exact h
theorem Aft.imp (h : Aft W g0 H0 Wx env σ g r F) (k : ∀ a st g' H', Gh.le g g' → SI W g0 H0 env st g' σ H' → F a st g' H' → F' a st g' H') : Aft W g0 H0 Wx env σ g r F' := by
  cases r with
  | ok a st => exact fun g2 H2 l2 si => k a st g2 H2 l2 si (h g2 H2 l2 si)
  | exc c fs st => exact h
  | bad => exact h
theorem Aft.bind {f : α → Sto → R β} {F : β → Sto → Gh → Hp → Prop} (h : Aft W g0 H0 Wx env σ g (r.bind f) F) : Aft W g0 H0 Wx env σ g r (fun a st g' _ => Aft W g0 H0 Wx env σ g' (f a st) F) := by
  cases r with
  | ok a st => exact fun g2 H2 l2 si => Aft.up (r := f a st) h l2
  | exc c fs st => exact h
  | bad => exact h
end
/-- wanted of a value -/
abbrev Val (Q : VK) : D → Sto → Gh → Hp → Prop := fun d _ g' H' => ∀ v, RV g' v d → Q v H'

/-- p bears something new that nobody holds -/
structure Own0 (W : Wld) (H0 : Hp) (env : Env) (σ : St) (g : Gh) (H : Hp) (p : Addr) (d : D) : Prop where
  fz : g.fz p = none
  mu : p ∉ g.mu
  h0 : H0 p = none
  no : ∀ (i : Nat) d', env[i]? = some (.ow d') → σ[i]? ≠ some (some (.ref p))
  ow : OwR W H g p d
theorem OwR.nf {W : Wld} {H : Hp} {g : Gh} {d : D} {a : Addr} (h : OwR W H g a d) : ∀ o u, H a ≠ Option.some (HO.frz o u) := by
  intro o u e
  cases d with
  | lst l => obtain ⟨vs, h1, _⟩ := h; rw [e] at h1; cases h1
  | dct l =>
    obtain ⟨u', h1, h2⟩ := h
    rw [e] at h1
    cases h1
    rcases h2 with ⟨kvs, z, _⟩ | ⟨xs, z, _⟩ <;> cases z
  | _ => exact h
/-- wanted of a value that may be new -/
def Nw (W : Wld) (H0 : Hp) (env : Env) (σ : St) (Q : VK) : D → Sto → Gh → Hp → Prop := fun d _ g H =>
  (flatD d = true → ∀ v, RV g v d → Q v H) ∧ ∀ p, Own0 W H0 env σ g H p d → Q (.ref p) H
section
variable {W : Wld} {g0 : Gh} {H0 : Hp} {Wx : WX} {env : Env} {σ : St} {g g' : Gh} {st st' : Sto} {H H' : Hp} {Q : VK} {d : D} {v : V}
theorem fin (si : SI W g0 H0 env st g σ H) (af : Aft W g0 H0 Wx env σ g (.ok d st') (Val Q)) (hs : HS W g' st' H') (f : Frm g H g' H') (r : RV g' v d) : Q v H' := af g' H' f.le (si.next hs f) v r
theorem fin0 (si : SI W g0 H0 env st g σ H) (af : Aft W g0 H0 Wx env σ g (.ok d st) (Val Q)) (r : RV g v d) : Q v H := af g H (.refl g) si v r
theorem fin0N (si : SI W g0 H0 env st g σ H) (af : Aft W g0 H0 Wx env σ g (.ok d st) (Nw W H0 env σ Q)) (r : RV g v d) (hf : flatD d = true := by rfl) : Q v H := (af g H (.refl g) si).1 hf v r
theorem finT {l : List D} {vs : List V} (si : SI W g0 H0 env st g σ H) (af : Aft W g0 H0 Wx env σ g (.ok (.tup l) st) (Val Q)) (rs : RVs g vs l) : ∀ p o, o.dict = none → H p = none → Q (.ref p) (upd H p (.frz o (.tup vs))) := fun p o ho hp =>
  af (g.addF p (.tup l)) _ (addF_le (si.hs.nofz hp)) (si.next (si.hs.layF hp ⟨o, vs, ho, upd_same, rs⟩) (Frm.layF hp (si.hs.nofz hp))) _ addF_is
theorem finTN {l : List D} {vs : List V} (si : SI W g0 H0 env st g σ H) (af : Aft W g0 H0 Wx env σ g (.ok (.tup l) st) (Nw W H0 env σ Q)) (rs : RVs g vs l) : ∀ p o, o.dict = none → H p = none → Q (.ref p) (upd H p (.frz o (.tup vs))) := fun p o ho hp =>
  (af (g.addF p (.tup l)) _ (addF_le (si.hs.nofz hp)) (si.next (si.hs.layF hp ⟨o, vs, ho, upd_same, rs⟩) (Frm.layF hp (si.hs.nofz hp)))).1 rfl _ addF_is
theorem finL {l : List D} {vs : List V} (si : SI W g0 H0 env st g σ H) (af : Aft W g0 H0 Wx env σ g (.ok (.lst l) st) (Val Q)) (rs : RVs g vs l) : ∀ p, H p = none → Q (.ref p) (upd H p (.lst vs)) := fun p hp =>
  af (g.addF p (.lst l)) _ (addF_le (si.hs.nofz hp)) (si.next (si.hs.layF hp ⟨vs, upd_same, rs⟩) (Frm.layF hp (si.hs.nofz hp))) _ addF_is
/-- something new, just laid -/
theorem own_new {p : Addr} {o : HO} (si : SI W g0 H0 env st g σ H) (hp : H p = none) (r : OwR W (upd H p o) g p d) : Own0 W H0 env σ g (upd H p o) p d where
  fz := si.hs.nofz hp
  mu := si.hs.nomu hp
  h0 := by
    cases e : H0 p with
    | none => rfl
    | some x => exact absurd hp (si.fr.al p (by rw [e]; simp))
  no := fun i d' e1 e2 => by
    obtain ⟨_, _, _, r⟩ := si.ownAt e1 e2
    exact r.some hp
  ow := r
theorem finN {p : Addr} {o : HO} (si : SI W g0 H0 env st g σ H) (af : Aft W g0 H0 Wx env σ g (.ok d st) (Nw W H0 env σ Q)) (hp : H p = none) (r : OwR W (upd H p o) g p d) : Q (.ref p) (upd H p o) :=
  (af g _ (.refl g) (si.next (si.hs.lay hp) (Frm.lay hp))).2 p (own_new si hp r)
theorem finLN {l : List D} {vs : List V} (si : SI W g0 H0 env st g σ H) (af : Aft W g0 H0 Wx env σ g (.ok (.lst l) st) (Nw W H0 env σ Q)) (rs : RVs g vs l) : ∀ p, H p = none → Q (.ref p) (upd H p (.lst vs)) := fun p hp => finN si af hp ⟨vs, upd_same, rs⟩
theorem ow_rv {p : Addr} (h : OwR W H g p d) : RV (g.addF p d) (.ref p) d := by
  cases d with
  | lst l => exact addF_is
  | dct l => exact addF_is
  | _ => exact (show False from h).elim
theorem SI.freeze {p : Addr} (si : SI W g0 H0 env st g σ H) (o : Own0 W H0 env σ g H p d) : SI W g0 H0 env st (g.addF p d) σ H := by
  refine ⟨si.hs.freeze o.fz o.mu o.ow.one o.ow.some, ⟨si.fr.le.trans (addF_le o.fz), si.fr.keep, fun a ha nm => ?_, si.fr.mu, si.fr.al⟩, si.er.len, fun i s x e1 e2 => ?_, si.er.ap⟩
  · rw [addF_ne fun z => by rw [z] at ha; exact ha o.h0]
    exact si.fr.fz a ha nm
  · have q := si.er.sl i s x e1 e2
    cases s with
    | emp => trivial
    | pu d0 => exact q.elim fun v z => ⟨v, z.1, z.2.mono (addF_le o.fz)⟩
    | ow d0 =>
      obtain ⟨a, e, n, m, h0, r⟩ := q
      have ne : a ≠ p := fun z => o.no i d0 e1 (by rw [e2, e, z])
      exact ⟨a, e, by rw [addF_ne ne]; exact n, m, h0, r.at rfl (addF_le o.fz)⟩
    | ex c fs => trivial
    | hd a c fs => exact q
theorem Aft.nw {r : R D} (h : Aft W g0 H0 Wx env σ g r (Val Q)) : Aft W g0 H0 Wx env σ g r (Nw W H0 env σ Q) := by
  cases r with
  | ok d st => exact fun g' H' l si => ⟨fun _ => h g' H' l si, fun p o => h (g'.addF p d) H' (l.trans (addF_le o.fz)) (si.freeze o) _ (ow_rv o.ow)⟩
  | exc c fs st => exact h
  | bad => exact h
end
/-- SZ and the model's line -/
theorem SZ_line : SZ + 700000 ≤ 16777216 := by decide
theorem le_line {n : Nat} (h : n ≤ SZ) : n ≤ sizeLine := by rw [sizeLine_eq]; exact Nat.le_trans h (by decide)
theorem lt_line {n : Nat} (h : n < SZ) : n < sizeLine := by rw [sizeLine_eq]; exact Nat.lt_of_lt_of_le h (by decide)

/-! ### texts -/
theorem toS_len (l : List Nat) : (toS l).length = l.length := by show l.toArray.size = _; simp
theorem toS_app (a b : List Nat) : toS a ++ toS b = toS (a ++ b) := by
  show (⟨a.toArray ++ b.toArray⟩ : Str) = _
  simp [toS]
theorem okS_app {a b : List Nat} (h : okS a) (k : okS b) : okS (a ++ b) := fun c hc => (List.mem_append.mp hc).elim (h c) (k c)
theorem pairedApp {α β : Type} {F : α → β → Prop} : ∀ {a : List α} {b : List β} {c : List α} {e : List β}, Paired F a b → Paired F c e → Paired F (a ++ c) (b ++ e)
  | _, _, _, _, .nil, h => h
  | _, _, _, _, .cons x t, h => .cons x (pairedApp t h)
theorem pairedLen {α β : Type} {F : α → β → Prop} : ∀ {a : List α} {b : List β}, Paired F a b → a.length = b.length
  | _, _, .nil => rfl
  | _, _, .cons _ t => by simp [pairedLen t]

theorem pairedRep {α β : Type} {F : α → β → Prop} {a : List α} {b : List β} (h : Paired F a b) : ∀ n, Paired F (List.replicate n a).flatten (List.replicate n b).flatten
  | 0 => .nil
  | n + 1 => by
    rw [List.replicate_succ, List.replicate_succ, List.flatten_cons, List.flatten_cons]
    exact pairedApp h (pairedRep h n)
/-! ### two-place operations -/
def opM : Op2 → Operator
  | .add => .Add
  | .sub => .Sub
  | .mul => .Mult
  | .mod => .Mod
  | .fdiv => .FloorDiv
  | .pow => .Pow
def rBin (W : Wld) (g0 : Gh) (H0 : Hp) (Wx : WX) (op : Op2) : R2 := fun x y H Q => ∃ env σ st g d1 d2, SI W g0 H0 env st g σ H ∧ RT W g H0 env σ x d1 ∧ RT W g H0 env σ y d2 ∧ Aft W g0 H0 Wx env σ g (R.of (opBin op d1 d2) st) (Nw W H0 env σ Q)
section
variable {X : Cx} {W : Wld} {g0 : Gh} {H0 : Hp} {Wx : WX}
theorem SI.intT {env st g σ H} (si : SI W g0 H0 env st g σ H) {v : V} {i : Int} (r : RT W g H0 env σ v (.int i)) : v = .int i := (si.flat r (fun _ e => by cases e) (fun _ e => by cases e)).int_inv
theorem SI.strT {env st g σ H} (si : SI W g0 H0 env st g σ H) {v : V} {l : List Nat} (r : RT W g H0 env σ v (.str l)) : v = .str (toS l) ∧ okS l := (si.flat r (fun _ e => by cases e) (fun _ e => by cases e)).str_inv
theorem opInt_inv {env st g σ H} {x y : V} {d1 d2 : D} {f : Int → Int → Option Int} {Q : VK} (si : SI W g0 H0 env st g σ H) (r1 : RT W g H0 env σ x d1) (r2 : RT W g H0 env σ y d2)
    (af : Aft W g0 H0 Wx env σ g (R.of (opInt f d1 d2) st) (Nw W H0 env σ Q)) : ∃ i j k, x = .int i ∧ y = .int j ∧ f i j = some k ∧ Q (.int k) H := by
  unfold opInt at af
  split at af
  · rename_i i j
    cases e : f i j with
    | none => rw [e] at af; exact af.elim
    | some k => rw [e] at af; exact ⟨i, j, k, si.intT r1, si.intT r2, e, fin0N si af rfl⟩
  · exact af.elim
theorem fold_same {α : Type} (a : Array α) : ∀ (m : Nat) (acc : Array α), (List.replicate m a).foldl (fun x y => x ++ y) acc = acc ++ (List.replicate m a.toList).flatten.toArray
  | 0, acc => by simp
  | m + 1, acc => by
    rw [List.replicate_succ, List.foldl_cons, fold_same a m, List.replicate_succ, List.flatten_cons]
    apply Array.toList_inj.mp
    simp
/-- a text, so many times -/
theorem op_mulS {X : Cx} {w0 : List Nat} {k : Int} {pins : List (Addr × Obj)} {s : Shared} {σ : St} {H : Hp} {v u : Value} {Q : VK} (I : Inv X pins σ H s) (rx : RelV (.str (toS w0)) v) (ry : RelV (.int k) u) (lo : -1000 ≤ k) (hi : k ≤ 1000) (hz : w0.length ≤ 1000) (q : Q (.str (toS (repL w0 k))) H) :
    wpAny (model X.prog X.w) X.A (binaryOp .Mult v u) (EP X pins σ Q) X.xe s := by
  obtain ⟨t, rfl⟩ := rx
  obtain ⟨t2, rfl⟩ := ry
  have hl : (toS w0).length = w0.length := toS_len _
  refine PySem.P.mul_str ?_ ?_ ?_ ?_
  · rw [decide_eq_false (by omega), decide_eq_false (by omega)]
    rfl
  · intro h1 _
    have h : (1000 : Int) ≤ (2 ^ 63 - 1) / k := Int.le_ediv_of_mul_le (by omega) (by omega)
    rw [hl]
    omega
  · intro h1 _
    show decide ((toS w0).length * k.toNat > sizeLine) = false
    refine decide_eq_false ?_
    rw [hl, sizeLine_eq]
    have := Nat.mul_le_mul hz (show k.toNat ≤ 1000 by omega)
    omega
  · by_cases h1 : k < 1
    · rw [if_pos h1]
      have e : repL w0 k = [] := by
        unfold repL
        rw [show k.toNat = 0 by omega]
        rfl
      rw [e] at q
      exact ⟨by decide, .str (toS []), H, I.tok _, ⟨_, rfl⟩, q⟩
    · rw [if_neg h1]
      by_cases h2 : (k == 1 || (toS w0).length == 0) = true
      · rw [if_pos h2]
        have e : repL w0 k = w0 := by
          simp only [Bool.or_eq_true, beq_iff_eq] at h2
          rcases h2 with h2 | h2
          · subst h2
            show (List.replicate 1 w0).flatten = w0
            simp
          · rw [hl] at h2
            have := List.eq_nil_of_length_eq_zero h2
            subst this
            unfold repL
            simp
        rw [e] at q
        exact ⟨.str (toS w0), H, I, ⟨_, rfl⟩, q⟩
      · rw [if_neg h2]
        have e : (⟨(List.replicate k.toNat (toS w0).cps).foldl (· ++ ·) #[]⟩ : Str) = toS (repL w0 k) := by
          have f := fold_same (toS w0).cps k.toNat #[]
          have g : (toS w0).cps.toList = w0 := by simp [toS]
          rw [g] at f
          unfold toS repL at *
          rw [f]
          simp
        rw [e]
        refine ⟨?_, .str (toS (repL w0 k)), H, I.tok _, ⟨_, rfl⟩, q⟩
        rw [toS_len]
        unfold repL
        rw [List.length_flatten, List.map_replicate, List.sum_replicate_nat, sizeLine_eq]
        have := Nat.mul_le_mul (show k.toNat ≤ 1000 by omega) hz
        omega
theorem repS_ok {w0 : List Nat} {k : Int} (h : okS w0) : okS (repL w0 k) := by
  intro c hc
  obtain ⟨l, hl, hc⟩ := List.mem_flatten.mp hc
  rw [(List.mem_replicate.mp hl).2] at hc
  exact h c hc
theorem op_bin (hK : X.K = W.K) (ok : W.Ok0) (op : Op2) : OpR X (binaryOp (opM op)) (rBin W g0 H0 Wx op) := by
  intro pins s σ H x y v u Q I rx ry ⟨env, σ1, st, g, d1, d2, si, r1, r2, af⟩
  cases op with
  | add =>
    simp only [opBin] at af
    unfold opAdd at af
    split at af
    · cases si.intT r1; cases si.intT r2
      exact op_add pins s σ H _ _ v u Q I rx ry ⟨_, _, rfl, rfl, fin0N si af rfl⟩
    · obtain ⟨e1, o1⟩ := si.strT r1
      obtain ⟨e2, o2⟩ := si.strT r2
      subst e1 e2
      split at af
      · rename_i hz
        refine op_add_str pins s σ H _ _ v u Q I rx ry ⟨_, _, rfl, rfl, by rw [toS_len, toS_len]; exact le_line hz, ?_⟩
        exact fin0N si af ⟨toS_app _ _, okS_app o1 o2⟩
      · exact af.elim
    · split at af
      · rename_i l1 l2 hz
        obtain ⟨a, xs, e1, s1, p1⟩ := si.tupT ok r1
        obtain ⟨b, ys, e2, s2, p2⟩ := si.tupT ok r2
        subst e1 e2
        have n1 := pairedLen p1
        have n2 := pairedLen p2
        refine op_catN pins s σ H _ _ v u Q I rx ry ⟨a, b, xs, ys, rfl, rfl, by rw [hK]; exact s1, by rw [hK]; exact s2, by rw [n1, n2]; exact le_line hz, fun e => ?_, fun e e2 => ?_, fun _ _ => finTN si af (pairedApp p1 p2)⟩
        · subst e
          cases p1
          exact fin0N si af (si.flat r2 (fun _ e => by cases e) (fun _ e => by cases e))
        · subst e2
          cases p2
          rw [List.append_nil] at af
          exact fin0N si af (si.flat r1 (fun _ e => by cases e) (fun _ e => by cases e))
      · exact af.elim
    · split at af
      · rename_i l1 l2 hz
        obtain ⟨a, xs, e1, s1, p1⟩ := si.lstT ok r1
        obtain ⟨b, ys, e2, s2, p2⟩ := si.lstT ok r2
        subst e1 e2
        have n1 := pairedLen p1
        have n2 := pairedLen p2
        exact op_cat pins s σ H _ _ v u Q I rx ry ⟨a, b, xs, ys, rfl, rfl, s1, s2, by rw [n1, n2]; exact le_line hz, finLN si af (pairedApp p1 p2)⟩
      · exact af.elim
    · exact af.elim
  | sub =>
    obtain ⟨i, j, k, e1, e2, e3, q⟩ := opInt_inv si r1 r2 af
    subst e1 e2
    cases e3
    exact op_sub pins s σ H _ _ v u Q I rx ry ⟨_, _, rfl, rfl, q⟩
  | mul =>
    replace af : Aft W g0 H0 Wx env σ1 g (R.of (opMul d1 d2) st) (Nw W H0 env σ1 Q) := af
    unfold opMul at af
    split at af
    · split at af
      · rename_i l1 k hz
        obtain ⟨a, xs, e1, s1, p1⟩ := si.tupT ok r1
        cases si.intT r2
        subst e1
        refine op_repN pins s σ H _ _ v u Q I rx ry ⟨a, k, xs, rfl, rfl, by rw [hK]; exact s1, hz.2.1, hz.2.2, by rw [pairedLen p1]; exact hz.1, fun e => ?_, fun _ => finTN si af (pairedRep p1 _)⟩
        have el : repL l1 k = l1 := by
          rcases e with e | e
          · subst e
            cases p1
            unfold repL
            induction k.toNat with
            | zero => rfl
            | succ m ih => rw [List.replicate_succ, List.flatten_cons, List.nil_append]; exact ih
          · subst e
            show (List.replicate 1 l1).flatten = l1
            simp
        rw [el] at af
        exact fin0N si af (si.flat r1 (fun _ e => by cases e) (fun _ e => by cases e))
      · exact af.elim
    · split at af
      · rename_i l1 k hz
        obtain ⟨a, xs, e1, s1, p1⟩ := si.lstT ok r1
        cases si.intT r2
        subst e1
        exact op_rep pins s σ H _ _ v u Q I rx ry ⟨a, k, xs, rfl, rfl, s1, by omega, by omega, by
          rw [pairedLen p1, sizeLine_eq]
          have := Nat.mul_le_mul hz.1 (show k.toNat ≤ 1000 by omega)
          omega, finLN si af (pairedRep p1 _)⟩
      · exact af.elim
    · split at af
      · rename_i l1 k hz
        obtain ⟨e1, o1⟩ := si.strT r1
        cases si.intT r2
        subst e1
        exact op_mulS I rx ry hz.2.1 hz.2.2 hz.1 (fin0N si af ⟨rfl, repS_ok o1⟩)
      · exact af.elim
    · obtain ⟨i, j, k, e1, e2, e3, q⟩ := opInt_inv si r1 r2 af
      subst e1 e2
      unfold mulI at e3
      split at e3 <;> cases e3
      rename_i hc
      refine op_mul pins s σ H _ _ v u Q I rx ry ⟨_, _, rfl, rfl, ?_, q⟩
      simpa [small64, CMul] using hc
  | mod =>
    obtain ⟨i, j, k, e1, e2, e3, q⟩ := opInt_inv si r1 r2 af
    subst e1 e2
    unfold modI at e3
    split at e3 <;> cases e3
    rename_i hc
    exact op_mod pins s σ H _ _ v u Q I rx ry ⟨_, _, rfl, rfl, hc, q⟩
  | fdiv =>
    obtain ⟨i, j, k, e1, e2, e3, q⟩ := opInt_inv si r1 r2 af
    subst e1 e2
    unfold divI at e3
    split at e3 <;> cases e3
    rename_i hc
    exact op_fdiv pins s σ H _ _ v u Q I rx ry ⟨_, _, rfl, rfl, hc, q⟩
  | pow =>
    obtain ⟨i, j, k, e1, e2, e3, q⟩ := opInt_inv si r1 r2 af
    subst e1 e2
    unfold powI at e3
    split at e3 <;> cases e3
    rename_i hc
    exact op_pow pins s σ H _ _ v u Q I rx ry ⟨_, _, rfl, rfl, ⟨hc.1, Int.le_trans hc.2.1 (by decide), Nat.lt_trans hc.2.2 (by decide)⟩, q⟩

/-! ### one-place operations -/
theorem un_negM : UnR X (unaryOp .USub) (fun x H Q => ∃ env σ st g d, SI W g0 H0 env st g σ H ∧ RV g x d ∧ Aft W g0 H0 Wx env σ g (match d with | .int i => .ok (.int (-i)) st | _ => .bad) (Val Q)) := by
  intro pins s σ H x v Q I rx ⟨env, σ1, st, g, d, si, r, af⟩
  cases d with
  | int i =>
    cases r.int_inv
    exact un_neg pins s σ H _ v Q I rx ⟨i, rfl, fin0 si af rfl⟩
  | _ => exact af.elim
end
end CF
/-! CFCmp -/
/-! Comparisons. -/
namespace CF
open PySem L2

mutual
def toPy : D → PyData
  | .non => .none
  | .bl b => .bool b
  | .int i => .int i
  | .str l => .str (toS l)
  | .tup l => .tuple (toPys l)
  | .lst l => .list (toPys l)
  | .dct _ => .none
  | .ref _ => .none
  | .scr _ => .none
def toPys : List D → List PyData
  | [] => []
  | x :: r => toPy x :: toPys r
end
theorem toS_inj {a b : List Nat} : toS a = toS b ↔ a = b := ⟨fun h => by
  have : (toS a).cps.toList = (toS b).cps.toList := by rw [h]
  simpa [toS] using this, fun h => by rw [h]⟩
theorem toS_beq (a b : List Nat) : (toS a == toS b) = (a == b) := by
  rw [Bool.eq_iff_iff]
  simp [toS_inj]
mutual
theorem eqv_eq : ∀ (n m : Nat) (a b : D), layN n a = true → layN m b = true → PyData.eqv (toPy a) (toPy b) = eqD a b
  | n, m, .tup x, .tup y, h, k => by
    cases n with
    | zero => cases h
    | succ n =>
      cases m with
      | zero => cases k
      | succ m => simp only [toPy, PyData.eqv, eqD]; exact eqvs_eq n m x y h k
  | n, m, .lst x, .lst y, h, k => by
    cases n with
    | zero => cases h
    | succ n =>
      cases m with
      | zero => cases k
      | succ m => simp only [toPy, PyData.eqv, eqD]; exact eqvs_eq n m x y h k
  | _, _, .non, .non, _, _ => rfl
  | _, _, .non, .bl _, _, _ => rfl
  | _, _, .non, .int _, _, _ => rfl
  | _, _, .non, .str _, _, _ => rfl
  | _, _, .non, .tup _, _, _ => rfl
  | _, _, .non, .lst _, _, _ => rfl
  | _, _, .bl _, .non, _, _ => rfl
  | _, _, .bl _, .bl _, _, _ => rfl
  | _, _, .bl _, .int _, _, _ => rfl
  | _, _, .bl _, .str _, _, _ => rfl
  | _, _, .bl _, .tup _, _, _ => rfl
  | _, _, .bl _, .lst _, _, _ => rfl
  | _, _, .int _, .non, _, _ => rfl
  | _, _, .int _, .bl _, _, _ => rfl
  | _, _, .int _, .int _, _, _ => rfl
  | _, _, .int _, .str _, _, _ => rfl
  | _, _, .int _, .tup _, _, _ => rfl
  | _, _, .int _, .lst _, _, _ => rfl
  | _, _, .str _, .non, _, _ => rfl
  | _, _, .str _, .bl _, _, _ => rfl
  | _, _, .str _, .int _, _, _ => rfl
  | _, _, .str x, .str y, _, _ => by simp only [toPy, PyData.eqv, eqD]; exact toS_beq x y
  | _, _, .str _, .tup _, _, _ => rfl
  | _, _, .str _, .lst _, _, _ => rfl
  | _, _, .tup _, .non, _, _ => rfl
  | _, _, .tup _, .bl _, _, _ => rfl
  | _, _, .tup _, .int _, _, _ => rfl
  | _, _, .tup _, .str _, _, _ => rfl
  | _, _, .tup _, .lst _, _, _ => rfl
  | _, _, .lst _, .non, _, _ => rfl
  | _, _, .lst _, .bl _, _, _ => rfl
  | _, _, .lst _, .int _, _, _ => rfl
  | _, _, .lst _, .str _, _, _ => rfl
  | _, _, .lst _, .tup _, _, _ => rfl
  | n, _, .dct _, _, h, _ => by cases n <;> cases h
  | n, _, .ref _, _, h, _ => by cases n <;> cases h
  | n, _, .scr _, _, h, _ => by cases n <;> cases h
  | _, m, _, .dct _, _, k => by cases m <;> cases k
  | _, m, _, .ref _, _, k => by cases m <;> cases k
  | _, m, _, .scr _, _, k => by cases m <;> cases k
theorem eqvs_eq : ∀ (n m : Nat) (a b : List D), layNs n a = true → layNs m b = true → PyData.eqvAll (toPys a) (toPys b) = eqDs a b
  | _, _, [], [], _, _ => rfl
  | _, _, [], _ :: _, _, _ => rfl
  | _, _, _ :: _, [], _, _ => rfl
  | n, m, x :: xs, y :: ys, h, k => by
    simp only [layNs, Bool.and_eq_true] at h k
    simp only [toPys, PyData.eqvAll, eqDs]
    rw [eqv_eq n m x y h.1 k.1, eqvs_eq n m xs ys h.2 k.2]
end
mutual
theorem dep_le : ∀ (n : Nat) (a : D), layN n a = true → (toPy a).depth ≤ n
  | n, .tup x, h => by
    cases n with
    | zero => cases h
    | succ n => simp only [toPy, PyData.depth]; exact Nat.succ_le_succ (deps_le n x h)
  | n, .lst x, h => by
    cases n with
    | zero => cases h
    | succ n => simp only [toPy, PyData.depth]; exact Nat.succ_le_succ (deps_le n x h)
  | _, .non, _ => Nat.zero_le _
  | _, .bl _, _ => Nat.zero_le _
  | _, .int _, _ => Nat.zero_le _
  | _, .str _, _ => Nat.zero_le _
  | n, .dct _, h => by cases n <;> cases h
  | n, .ref _, h => by cases n <;> cases h
  | n, .scr _, h => by cases n <;> cases h
theorem deps_le : ∀ (n : Nat) (a : List D), layNs n a = true → PyData.depthAll (toPys a) ≤ n
  | _, [], _ => Nat.zero_le _
  | n, x :: xs, h => by
    simp only [layNs, Bool.and_eq_true] at h
    simp only [toPys, PyData.depthAll]
    exact Nat.max_le.mpr ⟨dep_le n x h.1, deps_le n xs h.2⟩
end
theorem okS_py {l : List Nat} (h : okS l) : PyData.strOk (toS l) = true := by
  show l.toArray.all _ = true
  simpa [okS] using h
section
variable {X : Cx} {W : Wld} {g0 : Gh} {H0 : Hp} {Wx : WX} {env : Env} {σ : St} {st : Sto} {g : Gh} {H : Hp}
mutual
theorem dp_of (hK : X.K = W.K) (ok : W.Ok0) (si : SI W g0 H0 env st g σ H) : ∀ (n : Nat) (d : D) (v : V), layN n d = true → RV g v d → Dp X.K H v (toPy d) ∧ (toPy d).canLay0 = true
  | n, .tup l, v, h, r => by
    cases n with
    | zero => cases h
    | succ n =>
      obtain ⟨a, vs, e, s, p⟩ := si.tup ok r
      subst e
      obtain ⟨q1, q2⟩ := dps_of hK ok si n l vs h p
      exact ⟨.tup (by rw [hK]; exact s) q1, q2⟩
  | n, .lst l, v, h, r => by
    cases n with
    | zero => cases h
    | succ n =>
      obtain ⟨a, vs, e, s, p⟩ := si.lstV ok r
      subst e
      obtain ⟨q1, q2⟩ := dps_of hK ok si n l vs h p
      exact ⟨.lst (.of s) q1, q2⟩
  | _, .non, v, _, r => by cases r.non_inv; exact ⟨.non, rfl⟩
  | _, .bl b, v, _, r => by cases r.bl_inv; exact ⟨.bl b, rfl⟩
  | _, .int i, v, _, r => by cases r.int_inv; exact ⟨.int i, rfl⟩
  | _, .str l, v, _, r => by
    obtain ⟨e, o⟩ := r.str_inv
    subst e
    exact ⟨.str _, okS_py o⟩
  | n, .dct _, _, h, _ => by cases n <;> cases h
  | n, .ref _, _, h, _ => by cases n <;> cases h
  | n, .scr _, _, h, _ => by cases n <;> cases h
theorem dps_of (hK : X.K = W.K) (ok : W.Ok0) (si : SI W g0 H0 env st g σ H) : ∀ (n : Nat) (l : List D) (vs : List V), layNs n l = true → RVs g vs l → DpAll X.K H vs (toPys l) ∧ PyData.canLayAll0 (toPys l) = true
  | _, [], _, _, .nil => ⟨.nil, rfl⟩
  | n, x :: xs, _, h, .cons r t => by
    simp only [layNs, Bool.and_eq_true] at h
    obtain ⟨q1, q2⟩ := dp_of hK ok si n x _ h.1 r
    obtain ⟨q3, q4⟩ := dps_of hK ok si n xs _ h.2 t
    exact ⟨.cons q1 q3, by simp only [toPys, PyData.canLayAll0, q2, q4, Bool.and_self]⟩
end
/-- .. also of a name's own list -/
theorem dpT_of (hK : X.K = W.K) (ok : W.Ok0) (si : SI W g0 H0 env st g σ H) {n : Nat} {d : D} {v : V} (h : layN n d = true) (r : RT W g H0 env σ v d) : Dp X.K H v (toPy d) ∧ (toPy d).canLay0 = true := by
  cases d with
  | lst l =>
    cases n with
    | zero => cases h
    | succ n =>
      obtain ⟨a, vs, e, s, p⟩ := si.lstT ok r
      subst e
      obtain ⟨q1, q2⟩ := dps_of hK ok si n l vs h p
      exact ⟨.lst (.of s) q1, q2⟩
  | dct l => cases n <;> cases h
  | _ => exact dp_of hK ok si n _ v h (si.flat r (fun _ e => by cases e) (fun _ e => by cases e))
end

def rCmp (W : Wld) (g0 : Gh) (H0 : Hp) (Wx : WX) (op : Cm) : R2 := fun x y H Q => ∃ env σ st g d1 d2, SI W g0 H0 env st g σ H ∧ RT W g H0 env σ x d1 ∧ RT W g H0 env σ y d2 ∧ Aft W g0 H0 Wx env σ g ((R.of (opCmp st op d1 d2) st).bind fun b s => .ok (.bl b) s) (Val Q)
section
variable {X : Cx} {W : Wld} {g0 : Gh} {H0 : Hp} {Wx : WX} {env : Env} {σ : St} {st : Sto} {g : Gh} {H : Hp} {Q : VK}
theorem cmp_fin {b : Bool} (si : SI W g0 H0 env st g σ H) (af : Aft W g0 H0 Wx env σ g ((R.of (some b) st).bind fun b s => .ok (.bl b) s) (Val Q)) : Q (.bl b) H := fin0 (d := .bl b) si af rfl
/-- two lists, one of them empty, or data -/
theorem opEq_inv {a b : D} {r : Bool} (h : opEq a b = some r) : (∃ x y, a = .lst x ∧ b = .lst y ∧ (x = [] ∨ y = []) ∧ r = (x.isEmpty && y.isEmpty)) ∨ (layN LV a = true ∧ layN LV b = true ∧ r = eqD a b) := by
  unfold opEq at h
  split at h
  · cases h; exact .inl ⟨[], _, rfl, rfl, .inl rfl, by simp⟩
  · cases h; exact .inl ⟨_, [], rfl, rfl, .inr rfl, by simp⟩
  · split at h
    · rename_i hl
      cases h
      simp only [Bool.and_eq_true] at hl
      exact .inr ⟨hl.1, hl.2, rfl⟩
    · cases h
/-- two lists, one of them empty -/
theorem eq_ll (hu : X.A.units + 66 < cLine) {pins s σ'} {a b : Addr} {vs ws : List V} {l1 l2 : List D} (I : Inv X pins σ' H s) (s1 : H a = some (.lst vs)) (s2 : H b = some (.lst ws)) (p1 : RVs g vs l1) (p2 : RVs g ws l2) (hemp : l1 = [] ∨ l2 = []) :
    (Q (.bl (l1.isEmpty && l2.isEmpty)) H → wpAny (model X.prog X.w) X.A (compareOp .Eq (.ref a) (.ref b)) (EP X pins σ' Q) X.xe s) ∧ (Q (.bl (!(l1.isEmpty && l2.isEmpty))) H → wpAny (model X.prog X.w) X.A (compareOp .NotEq (.ref a) (.ref b)) (EP X pins σ' Q) X.xe s) := by
  obtain ⟨z1, its1, n1, q1, hl1, o1⟩ := I.lstM s1
  obtain ⟨z2, its2, n2, q2, hl2, o2⟩ := I.lstM s2
  have i1 : s.heap.IsList a its1.toArray := ⟨_, o1, rfl, n1, rfl⟩
  have i2 : s.heap.IsList b its2.toArray := ⟨_, o2, rfl, n2, rfl⟩
  have len1 := (pairedLen p1).symm.trans hl1
  have len2 := (pairedLen p2).symm.trans hl2
  have hu0 : X.A.units < cLine := by omega
  by_cases hsz : its1.toArray.size = its2.toArray.size
  · simp only [List.size_toArray] at hsz
    have both : l1 = [] ∧ l2 = [] := by
      rcases hemp with h | h
      · subst h
        simp only [List.length_nil] at len1
        exact ⟨rfl, List.length_eq_zero_iff.mp (by omega)⟩
      · subst h
        simp only [List.length_nil] at len2
        exact ⟨List.length_eq_zero_iff.mp (by omega), rfl⟩
    obtain ⟨b1, b2⟩ := both
    subst b1 b2
    have z1 : its1.toArray.size = 0 := by simp only [List.size_toArray, List.length_nil] at *; omega
    have he : ∀ j (h1 : j < its1.toArray.size) (h2 : j < its2.toArray.size), SeqAt.EqAt X.A.in1 s its1.toArray[j] its2.toArray[j] true := fun j h1 h2 => absurd h1 (by omega)
    have ra : (List.range its1.toArray.size).all (fun _ => true) = true := by rw [z1]; rfl
    refine ⟨fun q => SeqAt.RcAt.lists (e := fun _ => true) i1 i2 (by simp only [List.size_toArray]; exact hsz) hu0 he _ _ _ _ ?_, fun q => SeqAt.RcNeAt.lists (e := fun _ => true) i1 i2 (by simp only [List.size_toArray]; exact hsz) hu0 he _ _ _ _ ?_⟩
    · rw [ra]; exact ⟨.bl true, H, I, rfl, q⟩
    · rw [ra]; exact ⟨.bl false, H, I, rfl, q⟩
  · have rf : (l1.isEmpty && l2.isEmpty) = false := by
      cases l1 with
      | nil =>
        cases l2 with
        | nil => simp only [List.size_toArray, List.length_nil] at *; omega
        | cons _ _ => rfl
      | cons _ _ => rfl
    rw [rf]
    have hne : (its1.toArray.size != its2.toArray.size) = true := by simpa using hsz
    exact ⟨fun q => SeqAt.RcAt.lists_lengths i1 i2 hne hu0 _ _ _ _ ⟨.bl false, H, I, rfl, q⟩, fun q => SeqAt.RcNeAt.lists_lengths i1 i2 hne hu0 _ _ _ _ ⟨.bl true, H, I, rfl, q⟩⟩
theorem eq_sound (hK : X.K = W.K) (ok : W.Ok0) (hu : X.A.units + 66 < cLine) {pins s σ'} {x y : V} {v u : Value} {d1 d2 : D} {r : Bool} (I : Inv X pins σ' H s) (rx : RelV x v) (ry : RelV y u) (si : SI W g0 H0 env st g σ H)
    (r1 : RT W g H0 env σ x d1) (r2 : RT W g H0 env σ y d2) (e : opEq d1 d2 = some r) : (Q (.bl r) H → wpAny (model X.prog X.w) X.A (compareOp .Eq v u) (EP X pins σ' Q) X.xe s) ∧ (Q (.bl (!r)) H → wpAny (model X.prog X.w) X.A (compareOp .NotEq v u) (EP X pins σ' Q) X.xe s) := by
  rcases opEq_inv e with ⟨l1, l2, e1, e2, hemp, er⟩ | ⟨h1, h2, er⟩
  · subst e1 e2 er
    obtain ⟨a, vs, e1, s1, p1⟩ := si.lstT ok r1
    obtain ⟨b, ws, e2, s2, p2⟩ := si.lstT ok r2
    subst e1 e2
    cases rx
    cases ry
    exact eq_ll hu I s1 s2 p1 p2 hemp
  · subst er
    obtain ⟨p1, c1⟩ := dpT_of hK ok si h1 r1
    obtain ⟨p2, c2⟩ := dpT_of hK ok si h2 r2
    obtain ⟨as, q1⟩ := Dp.reads I _ x v p1 rx
    obtain ⟨bs, q2⟩ := Dp.reads I _ y u p2 ry
    have d1' := dep_le LV d1 h1
    have hu0 : X.A.units + min (toPy d1).depth (toPy d2).depth < cLine := by
      have : min (toPy d1).depth (toPy d2).depth ≤ (toPy d1).depth := Nat.min_le_left _ _
      have : LV = 60 := rfl
      omega
    rw [← eqv_eq LV LV d1 d2 h1 h2]
    exact ⟨fun q => SeqAt.compareEq_reads q1 q2 c1 c2 hu0 ⟨.bl _, H, I, rfl, q⟩, fun q => SeqAt.compareNe_reads q1 q2 c1 c2 hu0 ⟨.bl _, H, I, rfl, q⟩⟩
end
end CF
/-! CFDict -/
/-! Dicts. -/
namespace CF
open PySem L2

/-! ### keys -/
theorem b2i_eq (a b : Bool) : ((if a = true then (1 : Int) else 0) = if b = true then 1 else 0) ↔ a = b := by cases a <;> cases b <;> simp
mutual
theorem key_eq : ∀ (n m : Nat) (a b : D), keyN n a = true → keyN m b = true → eqD a b = decide (nkey a = nkey b)
  | n, m, .tup x, .tup y, h, k => by
    cases n with
    | zero => cases h
    | succ n =>
      cases m with
      | zero => cases k
      | succ m =>
        simp only [eqD, nkey, keys_eq n m x y h k]
        rw [Bool.eq_iff_iff]; simp
  | _, _, .non, .non, _, _ => by simp [eqD, nkey]
  | _, _, .non, .bl _, _, _ => by simp [eqD, nkey]
  | _, _, .non, .int _, _, _ => by simp [eqD, nkey]
  | _, _, .non, .str _, _, _ => by simp [eqD, nkey]
  | _, _, .non, .tup _, _, _ => by simp [eqD, nkey]
  | _, _, .bl _, .non, _, _ => by simp [eqD, nkey]
  | _, _, .bl a, .bl b, _, _ => by simp only [eqD, nkey, NestedKey.num.injEq]; rw [Bool.eq_iff_iff]; simp [b2i_eq]
  | _, _, .bl a, .int j, _, _ => by simp only [eqD, nkey, NestedKey.num.injEq]; rw [Bool.eq_iff_iff]; simp
  | _, _, .bl _, .str _, _, _ => by simp [eqD, nkey]
  | _, _, .bl _, .tup _, _, _ => by simp [eqD, nkey]
  | _, _, .int _, .non, _, _ => by simp [eqD, nkey]
  | _, _, .int i, .bl b, _, _ => by simp only [eqD, nkey, NestedKey.num.injEq]; rw [Bool.eq_iff_iff]; simp
  | _, _, .int i, .int j, _, _ => by simp only [eqD, nkey, NestedKey.num.injEq]; rw [Bool.eq_iff_iff]; simp
  | _, _, .int _, .str _, _, _ => by simp [eqD, nkey]
  | _, _, .int _, .tup _, _, _ => by simp [eqD, nkey]
  | _, _, .str _, .non, _, _ => by simp [eqD, nkey]
  | _, _, .str _, .bl _, _, _ => by simp [eqD, nkey]
  | _, _, .str _, .int _, _, _ => by simp [eqD, nkey]
  | _, _, .str x, .str y, _, _ => by simp only [eqD, nkey, NestedKey.text.injEq, toS_inj]; rw [Bool.eq_iff_iff]; simp
  | _, _, .str _, .tup _, _, _ => by simp [eqD, nkey]
  | _, _, .tup _, .non, _, _ => by simp [eqD, nkey]
  | _, _, .tup _, .bl _, _, _ => by simp [eqD, nkey]
  | _, _, .tup _, .int _, _, _ => by simp [eqD, nkey]
  | _, _, .tup _, .str _, _, _ => by simp [eqD, nkey]
  | n, _, .lst _, _, h, _ => by cases n <;> cases h
  | n, _, .dct _, _, h, _ => by cases n <;> cases h
  | n, _, .ref _, _, h, _ => by cases n <;> cases h
  | n, _, .scr _, _, h, _ => by cases n <;> cases h
  | _, m, _, .lst _, _, k => by cases m <;> cases k
  | _, m, _, .dct _, _, k => by cases m <;> cases k
  | _, m, _, .ref _, _, k => by cases m <;> cases k
  | _, m, _, .scr _, _, k => by cases m <;> cases k
theorem keys_eq : ∀ (n m : Nat) (a b : List D), keyNs n a = true → keyNs m b = true → eqDs a b = decide (nkeys a = nkeys b)
  | _, _, [], [], _, _ => by simp [eqDs, nkeys]
  | _, _, [], _ :: _, _, _ => by simp [eqDs, nkeys]
  | _, _, _ :: _, [], _, _ => by simp [eqDs, nkeys]
  | n, m, x :: xs, y :: ys, h, k => by
    simp only [keyNs, Bool.and_eq_true] at h k
    simp only [eqDs, nkeys, List.cons.injEq, key_eq n m x y h.1 k.1, keys_eq n m xs ys h.2 k.2]
    rw [Bool.eq_iff_iff]; simp
end
theorem str_eq (a b : List Nat) : eqD (.str a) (.str b) = decide (a = b) := by simp only [eqD]; rw [Bool.eq_iff_iff]; simp
mutual
theorem nkey_depth : ∀ (n : Nat) (a : D), keyN n a = true → (nkey a).depth ≤ n
  | n, .tup x, h => by
    cases n with
    | zero => cases h
    | succ n => simp only [nkey, NestedKey.depth]; exact Nat.succ_le_succ (nkeys_depth n x h)
  | _, .non, _ => Nat.zero_le _
  | _, .bl _, _ => Nat.zero_le _
  | _, .int _, _ => Nat.zero_le _
  | _, .str _, _ => Nat.zero_le _
  | n, .lst _, h => by cases n <;> cases h
  | n, .dct _, h => by cases n <;> cases h
  | n, .ref _, h => by cases n <;> cases h
  | n, .scr _, h => by cases n <;> cases h
theorem nkeys_depth : ∀ (n : Nat) (a : List D), keyNs n a = true → NestedKey.depthAll (nkeys a) ≤ n
  | _, [], _ => Nat.zero_le _
  | n, x :: xs, h => by
    simp only [keyNs, Bool.and_eq_true] at h
    simp only [nkeys, NestedKey.depthAll]
    exact Nat.max_le.mpr ⟨nkey_depth n x h.1, nkeys_depth n xs h.2⟩
end

section
variable {X : Cx} {W : Wld} {g0 : Gh} {H0 : Hp} {Wx : WX} {env : Env} {σ σ' : St} {st : Sto} {g : Gh} {H : Hp} {pins : List (Addr × Obj)} {s : Shared}
mutual
theorem nest_of (hK : X.K = W.K) (ok : W.Ok0) (hs : HS W g st H) (I : Inv X pins σ' H s) : ∀ (n : Nat) (d : D) (v : V) (u : Value), keyN n d = true → RV g v d → RelV v u → NestedIs s.heap (nkey d) u
  | n, .tup l, v, u, h, r, q => by
    cases n with
    | zero => cases h
    | succ n =>
      have si : SI W g H [] st g [] H := ⟨hs, .refl _ _, rfl, fun i _ _ e => absurd e (by simp), fun i _ _ _ _ e => absurd e (by simp)⟩
      obtain ⟨a, vs, e, sq, p⟩ := si.tup ok r
      subst e
      cases (show u = Value.ref a from q)
      obtain ⟨its, rv, ⟨o, ho, hc, k, hd⟩, _⟩ := I.tuple (by rw [hK]; exact sq)
      exact .tup ho hc hd (nests_of hK ok hs I n l vs its h p rv)
  | _, .non, v, u, _, r, q => by cases r.non_inv; cases (show u = Value.none from q); exact .none
  | _, .bl b, v, u, _, r, q => by cases r.bl_inv; cases (show u = Value.bool b from q); exact .bool rfl
  | _, .int i, v, u, _, r, q => by cases r.int_inv; obtain ⟨t, q⟩ := q; subst q; exact .int i t
  | _, .str l, v, u, _, r, q => by
    obtain ⟨e, o⟩ := r.str_inv
    subst e
    obtain ⟨t, q⟩ := q; subst q
    exact .text _ t
  | n, .lst _, _, _, h, _, _ => by cases n <;> cases h
  | n, .dct _, _, _, h, _, _ => by cases n <;> cases h
  | n, .ref _, _, _, h, _, _ => by cases n <;> cases h
  | n, .scr _, _, _, h, _, _ => by cases n <;> cases h
theorem nests_of (hK : X.K = W.K) (ok : W.Ok0) (hs : HS W g st H) (I : Inv X pins σ' H s) : ∀ (n : Nat) (l : List D) (vs : List V) (us : List Value), keyNs n l = true → RVs g vs l → Vals vs us → NestedAll s.heap (nkeys l) us
  | _, [], _, _, _, .nil, .nil => .nil
  | n, x :: xs, _, _, h, .cons r t, .cons q z => by
    simp only [keyNs, Bool.and_eq_true] at h
    exact .cons (nest_of hK ok hs I n x _ _ h.1 r q) (nests_of hK ok hs I n xs _ _ h.2 t z)
end
/-- a tuple as a key -/
theorem key_is (hK : X.K = W.K) (ok : W.Ok0) (hs : HS W g st H) (I : Inv X pins σ' H s) {k : D} {b : Addr} (h : keyN 5 k = true) (r : RV g (.ref b) k) : (nestedKind X.prog X.w).is s.heap (nkey k) b :=
  ⟨nest_of hK ok hs I 5 k _ _ h r rfl, Nat.le_trans (nkey_depth 5 k h) (by decide)⟩
end

/-! ### tables -/
section
variable {g : Gh}
theorem pk_find {w : List Nat} : ∀ {kvs : List (Key × V)} {l : List (D × D)}, PK g kvs l → (∃ v d, valV kvs (Sum.inr (toS w)) = some v ∧ findK (.str w) l = some d ∧ RV g v d) ∨ (valV kvs (Sum.inr (toS w)) = none ∧ findK (.str w) l = none)
  | _, _, .nil => .inr ⟨rfl, rfl⟩
  | (a, v) :: kvs, (k, d) :: l, .cons ⟨⟨x, e1, e2, _⟩, r⟩ t => by
    have e1 : k = .str x := e1
    have e2 : a = Sum.inr (toS x) := e2
    subst e1 e2
    simp only [findK, str_eq]
    by_cases h : x = w
    · subst h
      exact .inl ⟨v, d, valV_pos rfl, by simp, r⟩
    · rw [valV_neg (p := (Sum.inr (toS x), v)) (fun e => h (toS_inj.mp (Sum.inr.inj e)))]
      simp only [h, decide_false, Bool.false_eq_true, if_false]
      exact pk_find t
theorem pk_keys {kvs : List (Key × V)} {l : List (D × D)} {w : List Nat} (h : PK g kvs l) : (Sum.inr (toS w) ∈ kvs.map (·.1)) ↔ (findK (.str w) l).isSome = true := by
  induction h with
  | nil => simp [findK]
  | @cons p q kvs l hd t ih =>
    obtain ⟨⟨x, e1, e2, _⟩, r⟩ := hd
    obtain ⟨a, v⟩ := p
    obtain ⟨k, d⟩ := q
    simp only at e1 e2
    subst e1 e2
    simp only [List.map_cons, List.mem_cons, findK, str_eq, Sum.inr.injEq, toS_inj]
    by_cases h : x = w
    · subst h; simp
    · simp only [h, decide_false, Bool.false_eq_true, if_false, ← ih]
      simp [Ne.symm h]
theorem putK_not {kvs : List (Key × V)} {k : Key} {y : V} (h : k ∉ kvs.map (·.1)) : (kvs.map fun kv => if kv.1 = k then (kv.1, y) else kv) = kvs := by
  induction kvs with
  | nil => rfl
  | cons p r ih =>
    simp only [List.map_cons, List.mem_cons, not_or] at h
    rw [List.map_cons, if_neg (fun e => h.1 e.symm), ih h.2]
theorem putK_cons (p : Key × V) (r : List (Key × V)) (k : Key) (y : V) (hn : p.1 ∉ r.map (·.1)) : putK (p :: r) k y = if p.1 = k then (p.1, y) :: r else p :: putK r k y := by
  unfold putK
  by_cases h : p.1 = k
  · have hn' : k ∉ r.map (·.1) := by rw [← h]; exact hn
    rw [if_pos h, if_pos (by simp [h]), List.map_cons, if_pos h, putK_not hn']
  · rw [if_neg h, List.any_cons, decide_eq_false h, Bool.false_or]
    split
    · rw [List.map_cons, if_neg h]
    · rfl
theorem pk_put {w : List Nat} {y : V} {d : D} (ow : okS w) (r : RV g y d) : ∀ {kvs : List (Key × V)} {l : List (D × D)}, PK g kvs l → (kvs.map (·.1)).Nodup → PK g (putK kvs (Sum.inr (toS w)) y) (putD (.str w) d l)
  | _, _, .nil, _ => .cons ⟨⟨w, rfl, rfl, ow⟩, r⟩ .nil
  | (a, v) :: kvs, (k, e) :: l, .cons ⟨⟨x, e1, e2, ox⟩, q⟩ t, hn => by
    have e1 : k = .str x := e1
    have e2 : a = Sum.inr (toS x) := e2
    subst e1 e2
    rw [List.map_cons, List.nodup_cons] at hn
    rw [putK_cons _ _ _ _ hn.1]
    simp only [putD, str_eq]
    by_cases h : x = w
    · subst h
      simp only [if_true, decide_true]
      exact .cons ⟨⟨x, rfl, rfl, ox⟩, r⟩ t
    · rw [if_neg (show ¬ (Sum.inr (toS x) : Key) = Sum.inr (toS w) from fun e => h (toS_inj.mp (Sum.inr.inj e)))]
      simp only [h, decide_false, Bool.false_eq_true, if_false]
      exact .cons ⟨⟨x, rfl, rfl, ox⟩, q⟩ (pk_put ow r t hn.2)
theorem putK_nodup {kvs : List (Key × V)} {k : Key} {y : V} (hn : (kvs.map (·.1)).Nodup) : ((putK kvs k y).map (·.1)).Nodup := by
  induction kvs with
  | nil => simp [putK]
  | cons p r ih =>
    rw [List.map_cons, List.nodup_cons] at hn
    rw [putK_cons _ _ _ _ hn.1]
    split
    · rw [List.map_cons, List.nodup_cons]; exact hn
    · rename_i h
      rw [List.map_cons, List.nodup_cons]
      refine ⟨fun m => ?_, ih hn.2⟩
      obtain ⟨z, hz, e⟩ := List.mem_map.mp m
      unfold putK at hz
      split at hz
      · obtain ⟨z', hz', e'⟩ := List.mem_map.mp hz
        apply hn.1
        rw [← e, ← e']
        split
        · exact List.mem_map.mpr ⟨z', hz', rfl⟩
        · exact List.mem_map.mpr ⟨z', hz', rfl⟩
      · rcases List.mem_append.mp hz with hz | hz
        · exact hn.1 (by rw [← e]; exact List.mem_map.mpr ⟨z, hz, rfl⟩)
        · simp at hz; subst hz; exact h e.symm
theorem dt_find {k : D} (hk : keyN 5 k = true) : ∀ {xs : List (NestedKey × Addr × Value)} {l : List (D × D)}, PT' g xs l → (∃ p d, atKey xs (nkey k) = some p ∧ findK k l = some d ∧ ∃ v, RelV v p.2 ∧ RV g v d) ∨ (atKey xs (nkey k) = none ∧ findK k l = none)
  | _, _, .nil => .inr ⟨rfl, rfl⟩
  | (a, p) :: xs, (j, d) :: l, .cons ⟨_, h2, h3, _, hv⟩ t => by
    have h3 : a = nkey j := h3
    have h2 : keyN 5 j = true := h2
    subst h3
    simp only [findK, key_eq 5 5 j k h2 hk, atKey, List.find?_cons]
    by_cases h : nkey j = nkey k
    · simp only [h, decide_true, if_true]
      exact .inl ⟨p, d, rfl, rfl, hv⟩
    · simp only [h, decide_false, Bool.false_eq_true, if_false]
      exact dt_find hk t
theorem storedH_cons {K : Type} [DecidableEq K] (p : K × Addr × Value) (r : List (K × Addr × Value)) (k : K) (a : Addr) (v : Value) (hn : p.1 ∉ r.map (·.1)) : storedH (p :: r) k a v = if p.1 = k then (p.1, p.2.1, v) :: r else p :: storedH r k a v := by
  unfold storedH
  by_cases h : p.1 = k
  · have hn' : k ∉ r.map (·.1) := by rw [← h]; exact hn
    rw [if_pos h, if_pos (by simp [atKey, h]), List.map_cons, map_putAt_of_not_mem _ _ _ hn']
    simp [putAt, h]
  · rw [if_neg h]
    have e : atKey (p :: r) k = atKey r k := by simp [atKey, List.find?_cons, h]
    rw [e]
    split
    · rw [List.map_cons]; simp [putAt, h]
    · rfl
theorem dt_put {k : D} {b : Addr} {y : V} {u : Value} {d : D} (ht : isTup k = true) (hk : keyN 5 k = true) (rb : RV g (.ref b) k) (ru : RelV y u) (r : RV g y d) : ∀ {xs : List (NestedKey × Addr × Value)} {l : List (D × D)}, PT' g xs l → (xs.map (·.1)).Nodup → PT' g (storedH xs (nkey k) b u) (putD k d l)
  | _, _, .nil, _ => .cons ⟨ht, hk, rfl, rb, y, ru, r⟩ .nil
  | (a, p) :: xs, (j, e) :: l, .cons ⟨h1, h2, h3, h4, hv⟩ t, hn => by
    have h3 : a = nkey j := h3
    have h2 : keyN 5 j = true := h2
    subst h3
    rw [List.map_cons, List.nodup_cons] at hn
    rw [storedH_cons _ _ _ _ _ hn.1]
    simp only [putD, key_eq 5 5 j k h2 hk]
    by_cases h : nkey j = nkey k
    · simp only [h, decide_true, if_true]
      exact .cons ⟨h1, h2, h.symm, h4, y, ru, r⟩ t
    · simp only [h, decide_false, Bool.false_eq_true, if_false]
      exact .cons ⟨h1, h2, rfl, h4, hv⟩ (dt_put ht hk rb ru r t hn.2)
theorem storedH_nodup {K : Type} [DecidableEq K] {xs : List (K × Addr × Value)} {k : K} {a : Addr} {v : Value} (hn : (xs.map (·.1)).Nodup) : ((storedH xs k a v).map (·.1)).Nodup := by
  induction xs with
  | nil => simp [storedH, atKey]
  | cons p r ih =>
    rw [List.map_cons, List.nodup_cons] at hn
    rw [storedH_cons _ _ _ _ _ hn.1]
    split
    · rw [List.map_cons, List.nodup_cons]; exact hn
    · rename_i h
      rw [List.map_cons, List.nodup_cons]
      refine ⟨fun m => ?_, ih hn.2⟩
      obtain ⟨z, hz, e⟩ := List.mem_map.mp m
      unfold storedH at hz
      split at hz
      · have : z.1 ∈ (r.map (putAt k v)).map (·.1) := List.mem_map.mpr ⟨z, hz, rfl⟩
        rw [keys_map_putAt, e] at this
        exact hn.1 this
      · rcases List.mem_append.mp hz with hz | hz
        · exact hn.1 (by rw [← e]; exact List.mem_map.mpr ⟨z, hz, rfl⟩)
        · simp at hz; subst hz; exact h e.symm
theorem putD_len (k v : D) : ∀ l : List (D × D), (putD k v l).length ≤ l.length + 1
  | [] => by simp [putD]
  | (a, w) :: r => by
    simp only [putD]
    split
    · simp
    · simp only [List.length_cons]; have := putD_len k v r; omega
end
end CF
/-! CFDict2 -/
/-! Dicts: what is asked of them, what is put. -/
namespace CF
open PySem L2
section
variable {X : Cx} {W : Wld} {g0 : Gh} {H0 : Hp} {Wx : WX} {env : Env} {σ σ' : St} {st : Sto} {g : Gh} {H : Hp} {pins : List (Addr × Obj)} {s : Shared} {a : Addr} {u : HO} {l : List (D × D)} {k : D} {v : V} {uv : Value}
theorem dt_heap (hP : X.prog = W.P) (hw : X.w = W.w) (hK : X.K = W.K) (ok : W.Ok0) (hs : HS W g st H) (I : Inv X pins σ' H s) {xs : List (NestedKey × Addr × Value)} (rd : Rd H a (DTO W.P W.w a xs)) (p : PT' g xs l) (nd : (xs.map (·.1)).Nodup) : s.heap.DictOfH (nestedKind X.prog X.w) a xs := by
  obtain ⟨o, es, ep, h1, h2, h3, h4⟩ := (rd_of I.hok rd).1
  refine ⟨o, es, ep, h1, h2, h3, by rw [hP, hw]; exact h4, fun x hx => ?_, nd⟩
  clear h4 nd rd
  induction p with
  | nil => cases hx
  | @cons p q ps qs hd t ih =>
    rcases List.mem_cons.mp hx with e | m
    · subst e
      rw [hd.2.2.1]
      exact key_is hK ok hs I hd.2.1 hd.2.2.2.1
    · exact ih m
/-- how a key is met -/
inductive DF (X : Cx) (W : Wld) (H : Hp) (g : Gh) (s : Shared) (a : Addr) (u : HO) (l : List (D × D)) (k : D) (v : V) : Prop where
  | text (kvs : List (Key × V)) (w : List Nat) : u = .dK kvs → v = .str (toS w) → k = .str w → okS w → PK g kvs l → (kvs.map (·.1)).Nodup → DF X W H g s a u l k v
  | tupl (xs : List (NestedKey × Addr × Value)) (b : Addr) : (u = DTO W.P W.w a xs ∨ (u = .dK [] ∧ xs = [])) → v = .ref b → isTup k = true → keyN 5 k = true → s.heap.DictOfH (nestedKind X.prog X.w) a xs → PT' g xs l → (xs.map (·.1)).Nodup →
      (nestedKind X.prog X.w).is s.heap (nkey k) b → (a == sysModules) = false → xs.length ≤ sizeLine → DF X W H g s a u l k v
theorem pt_tup {xs : List (NestedKey × Addr × Value)} (p : PT' g xs l) (h : l.all (fun q => isStr q.1) = true) : xs = [] := by
  cases p with
  | nil => rfl
  | cons hd t =>
    simp only [List.all_cons, Bool.and_eq_true] at h
    have := hd.1
    revert this
    have h1 := h.1
    revert h1
    generalize (_ : D × D).1 = d
    cases d <;> simp [isStr, isTup]
theorem pk_str {kvs : List (Key × V)} (p : PK g kvs l) (h : l.all (fun q => isTup q.1) = true) : kvs = [] := by
  cases p with
  | nil => rfl
  | cons hd t =>
    simp only [List.all_cons, Bool.and_eq_true] at h
    obtain ⟨⟨w, e, _⟩, _⟩ := hd
    rw [e] at h
    exact absurd h.1 (by simp [isTup])
theorem df_of (hP : X.prog = W.P) (hw : X.w = W.w) (hK : X.K = W.K) (ok : W.Ok0) (hs : HS W g st H) (I : Inv X pins σ' H s) (rd : Rd H a u) (dd : DctD W g a u l) (hk : keyOk l k = true) (r : RV g v k) : DF X W H g s a u l k v := by
  unfold keyOk at hk
  simp only [Bool.or_eq_true, Bool.and_eq_true] at hk
  rcases hk with ⟨hk, hl⟩ | ⟨⟨hk, hn⟩, hl⟩
  · obtain ⟨w, ew⟩ : ∃ w, k = .str w := by
      cases k <;> simp [isStr] at hk
      exact ⟨_, rfl⟩
    subst ew
    obtain ⟨e1, o1⟩ := r.str_inv
    rcases dd with ⟨kvs, e, p, n⟩ | ⟨xs, e, p, n, hd, hz, hx⟩
    · exact .text kvs w e e1 rfl o1 p n
    · exact absurd (pt_tup p hl) hx
  · obtain ⟨b, eb⟩ : ∃ b, v = .ref b := by
      cases k <;> simp [isTup] at hk
      obtain ⟨b, e, _⟩ := r.tup_inv
      exact ⟨b, e⟩
    subst eb
    rcases dd with ⟨kvs, e, p, n⟩ | ⟨xs, e, p, n, hd, hz, hx⟩
    · have hkv := pk_str p hl
      subst hkv e
      cases p
      obtain ⟨_, hd, vs, rel, o, es, ep, h1, h2, h3, _, h5, _⟩ := dk_rd I.hok rd
      cases rel
      have he : es.toList = [] := by cases q : es.toList with | nil => rfl | cons _ _ => rw [q] at h5; cases h5
      refine .tupl [] b (.inr ⟨rfl, rfl⟩) rfl hk hn ⟨o, es, ep, h1, h2, h3, by rw [he]; rfl, fun x hx => (by cases hx), by simp⟩ .nil (by simp) (key_is hK ok hs I hn r) hd (Nat.zero_le _)
    · subst e
      exact .tupl xs b (.inl rfl) rfl hk hn (dt_heap hP hw hK ok hs I rd p n) p n (key_is hK ok hs I hn r) hd hz
theorem dto_new {P : Program} {w : World} {H' : Hp} {h : Heap} {xs : List (NestedKey × Addr × Value)} (dd : h.DictOfH (nestedKind P w) a xs) : ObjOk P w H' h a (DTO P w a xs) := by
  obtain ⟨o, es, ep, h1, h2, h3, h4, _⟩ := dd
  exact ⟨⟨o, es, ep, h1, h2, h3, h4⟩, ⟨o, h1⟩, fun h1' h2' p q => by
    obtain ⟨o, es, ep, h1, h2, h3, h4⟩ := p
    exact ⟨o, es, ep, q o h1, h2, h3, h4⟩⟩
variable {A : Around} {E : Value → Shared → Prop}
theorem room8 (hu : A.units + 12 < cLine) : (nestedKind X.prog X.w).room A.in1 := by
  show A.units + 1 + 8 < cLine
  omega
/-- k in d -/
theorem dct_in {Q : Value → Shared → Prop} (hu : A.units + 12 < cLine) (I : Inv X pins σ' H s) (f : DF X W H g s a u l k v) (rd : Rd H a u) (rv : RelV v uv) (h : ∀ s', Inv X pins σ' H s' → Q (.bool (findK k l).isSome) s') : wpAny (model X.prog X.w) A (compareOp .In uv (.ref a)) Q E s := by
  cases f with
  | text kvs w e1 e2 e3 o p n =>
    subst e1 e2 e3
    refine d_in (by omega) I (.inl ⟨kvs, Sum.inr (toS w), rd, rfl, rfl⟩) rv fun s' I' => ?_
    rcases pk_find (w := w) p with ⟨v, d, h1, h2, _⟩ | ⟨h1, h2⟩
    · rw [h1]; have := h s' I'; rw [h2] at this; exact this
    · rw [h1]; have := h s' I'; rw [h2] at this; exact this
  | tupl xs b e1 e2 ht hn hd p n is hsy hz =>
    subst e2
    cases (show uv = Value.ref b from rv)
    refine wpAny_in_heap (room8 hu) is hsy hd ?_
    rcases dt_find hn p with ⟨q, d, h1, h2, _⟩ | ⟨h1, h2⟩
    · rw [h1]; have := h _ (I.tok (s.toks + (nestedKind X.prog X.w).draws (nkey k))); rw [h2] at this; exact this
    · rw [h1]; have := h _ (I.tok (s.toks + (nestedKind X.prog X.w).draws (nkey k))); rw [h2] at this; exact this
theorem dct_notIn {Q : Value → Shared → Prop} (hu : A.units + 12 < cLine) (I : Inv X pins σ' H s) (f : DF X W H g s a u l k v) (rd : Rd H a u) (rv : RelV v uv) (h : ∀ s', Inv X pins σ' H s' → Q (.bool (!(findK k l).isSome)) s') : wpAny (model X.prog X.w) A (compareOp .NotIn uv (.ref a)) Q E s := by
  cases f with
  | text kvs w e1 e2 e3 o p n =>
    subst e1 e2 e3
    refine d_notIn (by omega) I (.inl ⟨kvs, Sum.inr (toS w), rd, rfl, rfl⟩) rv fun s' I' => ?_
    rcases pk_find (w := w) p with ⟨v, d, h1, h2, _⟩ | ⟨h1, h2⟩
    · rw [h1]; have := h s' I'; rw [h2] at this; exact this
    · rw [h1]; have := h s' I'; rw [h2] at this; exact this
  | tupl xs b e1 e2 ht hn hd p n is hsy hz =>
    subst e2
    cases (show uv = Value.ref b from rv)
    refine PyProof.Rows.wpAny_notIn_heap (room8 hu) is hsy hd ?_
    rcases dt_find hn p with ⟨q, d, h1, h2, _⟩ | ⟨h1, h2⟩
    · rw [h1]; have := h _ (I.tok (s.toks + (nestedKind X.prog X.w).draws (nkey k))); rw [h2] at this; exact this
    · rw [h1]; have := h _ (I.tok (s.toks + (nestedKind X.prog X.w).draws (nkey k))); rw [h2] at this; exact this
/-- d[k] -/
theorem dct_get {Q : Value → Shared → Prop} {d : D} (hu : A.units + 12 < cLine) (I : Inv X pins σ' H s) (f : DF X W H g s a u l k v) (rd : Rd H a u) (rv : RelV v uv) (e : findK k l = some d) (h : ∀ (x : V) w' s', Inv X pins σ' H s' → RelV x w' → RV g x d → Q w' s') : wpAny (model X.prog X.w) A (getItem (.ref a) uv) Q E s := by
  cases f with
  | text kvs w e1 e2 e3 o p n =>
    subst e1 e2 e3
    rcases pk_find (w := w) p with ⟨x, d', h1, h2, r⟩ | ⟨h1, h2⟩
    · rw [e] at h2; cases h2
      exact d_getItem (by omega) I (.inl ⟨kvs, Sum.inr (toS w), rd, rfl, h1.symm⟩) rv fun w' s' I' r' => h x w' s' I' r' r
    · rw [e] at h2; cases h2
  | tupl xs b e1 e2 ht hn hd p n is hsy hz =>
    subst e2
    cases (show uv = Value.ref b from rv)
    rcases dt_find hn p with ⟨q, d', h1, h2, x, r1, r2⟩ | ⟨h1, h2⟩
    · rw [e] at h2; cases h2
      exact wpAny_getItem_heap (room8 hu) is hd h1 (h x q.2 _ (I.tok _) r1 r2)
    · rw [e] at h2; cases h2
/-- d.get(k, y) -/
theorem dct_getOr {Q : Value → Shared → Prop} {y : V} {uy : Value} {dy : D} (hu : A.units + 12 < cLine) (I : Inv X pins σ' H s) (f : DF X W H g s a u l k v) (rd : Rd H a u) (rv : RelV v uv) (ry : RelV y uy) (rd' : RV g y dy) (h : ∀ (x : V) w' s', Inv X pins σ' H s' → RelV x w' → RV g x ((findK k l).getD dy) → Q w' s') :
    wpAny (model X.prog X.w) A (call (.builtin "dict.get") [.ref a, uv, uy]) Q E s := by
  cases f with
  | text kvs w e1 e2 e3 o p n =>
    subst e1 e2 e3
    refine d_get2 (by omega) I (.inl ⟨kvs, Sum.inr (toS w), rd, rfl, rfl⟩) rv ry fun w' s' I' r' => h _ w' s' I' r' ?_
    rcases pk_find (w := w) p with ⟨x, d', h1, h2, r⟩ | ⟨h1, h2⟩
    · rw [h1, h2]; exact r
    · rw [h1, h2]; exact rd'
  | tupl xs b e1 e2 ht hn hd p n is hsy hz =>
    subst e2
    cases (show uv = Value.ref b from rv)
    refine call_meetsIn F.slot_dict_get hd.typeIs F.entry_dict_get (F.args_dict_get_3 _ _ _) (meetsH_dict_get_default (nestedKind X.prog X.w) a b hsy uy) ⟨room8 hu, nkey k, xs, is, hd, ?_⟩
    rcases dt_find hn p with ⟨q, d', h1, h2, x, r1, r2⟩ | ⟨h1, h2⟩
    · rw [h1]; exact h x _ _ (I.tok _) r1 (by rw [h2]; exact r2)
    · rw [h1]; exact h y _ _ (I.tok _) ry (by rw [h2]; exact rd')
/-- d[k] = y -/
theorem dct_set {Q : Unit → Shared → Prop} {y : V} {uy : Value} {dy : D} (hP : X.prog = W.P) (hw : X.w = W.w) (hu : A.units + 12 < cLine) (I : Inv X pins σ' H s) (f : DF X W H g s a u l k v) (at' : H a = some u) (hl : l.length < SZ) (rv : RelV v uv) (rk : RV g v k) (ry : RelV y uy) (rd' : RV g y dy)
    (h : ∀ u' s', Inv X pins σ' (upd H a u') s' → DctD W g a u' (putD k dy l) → Q () s') : wpAny (model X.prog X.w) A (setItem (.ref a) uv uy) Q E s := by
  cases f with
  | text kvs w e1 e2 e3 o p n =>
    subst e1 e2 e3
    refine d_setItem (by omega) I (DPut.k (k := Sum.inr (toS w)) at' (by rw [pairedLen p]; exact lt_line hl)) rv ry fun s' I' => h _ s' I' (.inl ⟨_, rfl, pk_put o rd' p n, putK_nodup n⟩)
  | tupl xs b e1 e2 ht hn hd p n is hsy hz =>
    subst e2
    cases (show uv = Value.ref b from rv)
    refine wpAny_setItem_heap (hsz := hz) (room8 hu) is hd fun h' dd' hs' => h (DTO X.prog X.w a (storedH xs (nkey k) b uy)) _ ?_ (.inr ⟨_, by rw [hP, hw], dt_put ht hn rk ry rd' p n, storedH_nodup n, hsy, ?_, ?_⟩)
    · have he : ∃ q, h'.get? a = some q := let ⟨q, _, _, hq, _⟩ := dd'; ⟨q, hq⟩
      refine d_write I ?_ hs' he (dto_new dd')
      rcases e1 with e1 | e1
      · rw [at', e1]; exact True.intro
      · rw [at', e1.1]; exact True.intro
    · have q := pairedLen (dt_put ht hn rk ry rd' p n)
      rw [q]
      exact Nat.le_trans (putD_len _ _ _) (lt_line hl)
    · intro e0
      have q := dt_put ht hn rk ry rd' p n
      rw [e0] at q
      generalize hz : putD k dy l = z at q
      cases q
      cases l with
      | nil => simp [putD] at hz
      | cons c r =>
        unfold putD at hz
        split at hz <;> cases hz
/-- d.setdefault(k, y) -/
theorem putD_new {k y : D} : ∀ {l : List (D × D)}, findK k l = none → putD k y l = l ++ [(k, y)]
  | [], _ => rfl
  | (a, w) :: r, h => by
    simp only [findK] at h
    split at h
    · cases h
    · rename_i hc
      simp only [putD, hc, List.cons_append]
      rw [if_neg (by simp), putD_new h]
theorem dct_setd {Q : Value → Shared → Prop} {y : V} {uy : Value} {dy : D} (hP : X.prog = W.P) (hw : X.w = W.w) (hu : A.units + 12 < cLine) (I : Inv X pins σ' H s) (f : DF X W H g s a u l k v) (at' : H a = some u) (hl : l.length < SZ) (rv : RelV v uv) (rk : RV g v k) (ry : RelV y uy) (rd' : RV g y dy)
    (h1 : ∀ d x w' s', findK k l = some d → Inv X pins σ' H s' → RelV x w' → RV g x d → Q w' s') (h2 : findK k l = none → ∀ u' s' w', Inv X pins σ' (upd H a u') s' → RelV y w' → DctD W g a u' (l ++ [(k, dy)]) → Q w' s') : wpAny (model X.prog X.w) A (call (.builtin "dict.setdefault") [.ref a, uv, uy]) Q E s := by
  cases f with
  | text kvs w e1 e2 e3 o p n =>
    subst e1 e2 e3
    refine d_setd (k := Sum.inr (toS w)) I at' rv ry (by rw [pairedLen p]; exact lt_line hl) (fun x hx w' s' I' r' => ?_) fun hn w' s' I' r' => ?_
    · rcases pk_find (w := w) p with ⟨x', d', h1', h2', r⟩ | ⟨h1', h2'⟩
      · rw [hx] at h1'; cases h1'
        exact h1 d' x w' s' h2' I' r' r
      · rw [hx] at h1'; cases h1'
    · rcases pk_find (w := w) p with ⟨x', d', h1', h2', r⟩ | ⟨h1', h2'⟩
      · rw [hn] at h1'; cases h1'
      · refine h2 h2' _ s' w' I' r' (.inl ⟨_, rfl, ?_, putK_nodup n⟩)
        have q := pk_put o rd' p n
        rw [putD_new h2'] at q
        exact q
  | tupl xs b e1 e2 ht hn hd p n is hsy hz =>
    subst e2
    cases (show uv = Value.ref b from rv)
    refine call_setdefault_heap (hsz := hz) (room8 hu) is hsy hd (fun q hq => ?_) fun hq h' dd' hs' => ?_
    · rcases dt_find hn p with ⟨q', d', h1', h2', x, r1, r2⟩ | ⟨h1', h2'⟩
      · rw [hq] at h1'; cases h1'
        exact h1 d' x _ _ h2' (I.tok _) r1 r2
      · rw [hq] at h1'; cases h1'
    · rcases dt_find hn p with ⟨q', d', h1', h2', x, r1, r2⟩ | ⟨h1', h2'⟩
      · rw [hq] at h1'; cases h1'
      · have q := dt_put ht hn rk ry rd' p n
        rw [putD_new h2'] at q
        refine h2 h2' (DTO X.prog X.w a (storedH xs (nkey k) b uy)) _ _ ?_ ry (.inr ⟨_, by rw [hP, hw], q, storedH_nodup n, hsy, ?_, ?_⟩)
        · have he : ∃ q, h'.get? a = some q := let ⟨q, _, _, hq, _⟩ := dd'; ⟨q, hq⟩
          refine d_write I ?_ hs' he (dto_new dd')
          rcases e1 with e1 | e1
          · rw [at', e1]; exact True.intro
          · rw [at', e1.1]; exact True.intro
        · have z := pairedLen q
          rw [z]
          simp only [List.length_append, List.length_cons, List.length_nil]
          exact lt_line hl
        · intro e0
          rw [e0] at q
          have z := pairedLen q
          simp at z
/-- len(d) -/
theorem dct_len {Q : Value → Shared → Prop} (hP : X.prog = W.P) (hw : X.w = W.w) (hK : X.K = W.K) (ok : W.Ok0) (hs : HS W g st H) (I : Inv X pins σ' H s) (rd : Rd H a u) (dd : DctD W g a u l) (h : ∀ t s', Inv X pins σ' H s' → Q (.int l.length t) s') : wpAny (model X.prog X.w) A (call (.builtin "len") [.ref a]) Q E s := by
  rcases dd with ⟨kvs, e, p, n⟩ | ⟨xs, e, p, n, hd, hz, hx⟩
  · subst e
    refine d_len I rd fun t s' I' => ?_
    rw [pairedLen p]
    exact h t s' I'
  · subst e
    have dh := dt_heap hP hw hK ok hs I rd p n
    refine call_len_dictH hd dh (by rw [sizeLine_eq] at hz; omega) ?_
    rw [pairedLen p]
    exact h _ _ (I.tok _)
/-- a dict with tuples for keys, or none, by its entries -/
theorem dh_of (hP : X.prog = W.P) (hw : X.w = W.w) (hK : X.K = W.K) (ok : W.Ok0) (hs : HS W g st H) (I : Inv X pins σ' H s) (rd : Rd H a u) (dd : DctD W g a u l) (hl : l.all (fun q => isTup q.1) = true) :
    ∃ xs, (u = DTO W.P W.w a xs ∨ (u = .dK [] ∧ xs = [])) ∧ s.heap.DictOfH (nestedKind X.prog X.w) a xs ∧ PT' g xs l ∧ (xs.map (·.1)).Nodup ∧ (a == sysModules) = false ∧ xs.length ≤ sizeLine := by
  rcases dd with ⟨kvs, e, p, n⟩ | ⟨xs, e, p, n, hd, hz, hx⟩
  · have hkv := pk_str p hl
    subst hkv e
    cases p
    obtain ⟨_, hd, vs, rel, o, es, ep, h1, h2, h3, _, h5, _⟩ := dk_rd I.hok rd
    cases rel
    have he : es.toList = [] := by cases q : es.toList with | nil => rfl | cons _ _ => rw [q] at h5; cases h5
    exact ⟨[], .inr ⟨rfl, rfl⟩, ⟨o, es, ep, h1, h2, h3, by rw [he]; rfl, fun x hx => (by cases hx), by simp⟩, .nil, by simp, hd, Nat.zero_le _⟩
  · subst e
    exact ⟨xs, .inl rfl, dt_heap hP hw hK ok hs I rd p n, p, n, hd, hz⟩
/-- d.update(d2), d2 with one tuple for its keys -/
theorem dct_updT {Q : Value → Shared → Prop} {b : Addr} {ub : HO} {k y : D} (hP : X.prog = W.P) (hw : X.w = W.w) (hK : X.K = W.K) (ok : W.Ok0) (hs : HS W g st H) (hu : A.units + 12 < cLine) (I : Inv X pins σ' H s) (hab : a ≠ b) (at' : H a = some u) (dd : DctD W g a u l) (hl : l.all (fun q => isTup q.1) = true) (hz : l.length < SZ)
    (rd : Rd H b ub) (db : DctD W g b ub [(k, y)]) (hk : isTup k = true) (hn : keyN 5 k = true) (h : ∀ u' s', Inv X pins σ' (upd H a u') s' → DctD W g a u' (putD k y l) → Q .none s') : wpAny (model X.prog X.w) A (call (.builtin "dict.update") [.ref a, .ref b]) Q E s := by
  obtain ⟨xs, eu, hd, p, nd, hsy, hsz⟩ := dh_of hP hw hK ok hs I (.of at') dd hl
  obtain ⟨ys, _, hd2, p2, nd2, hsy2, _⟩ := dh_of hP hw hK ok hs I rd db (by simp [hk])
  cases p2 with
  | @cons z q ys qs hz2 t =>
    cases t
    obtain ⟨kk, c, w2⟩ := z
    obtain ⟨h1, h2, h3, h4, v, rv, ry⟩ := hz2
    have h3 : kk = nkey k := h3
    subst h3
    have q := dt_put h1 h2 h4 rv ry p nd
    have hlen := pairedLen q
    have hln : (storedH xs (nkey k) c w2).length ≤ sizeLine := by
      rw [hlen]
      exact Nat.le_trans (putD_len _ _ _) (lt_line hz)
    refine call_update_dictH (room8 hu) hab hsy2 hd hd2 (.inr ⟨fun x hx => keyed_apart nestedKind_stays hd2 x hx, by simp⟩) (by rw [pairedLen p]; simp only [List.length_cons, List.length_nil]; exact lt_line hz) fun h' dd' _ hs' => h (DTO X.prog X.w a (storedH xs (nkey k) c w2)) _ ?_ (.inr ⟨_, by rw [hP, hw], q, storedH_nodup nd, hsy, hln, ?_⟩)
    · have he : ∃ q, h'.get? a = some q := let ⟨q, _, _, hq, _⟩ := dd'; ⟨q, hq⟩
      refine d_write (t' := s.toks) I ?_ hs' he (dto_new dd')
      rcases eu with e1 | e1
      · rw [at', e1]; exact True.intro
      · rw [at', e1.1]; exact True.intro
    · intro e0
      rw [e0] at hlen
      have : putD k y l = [] := List.length_eq_zero_iff.mp hlen.symm
      cases l with
      | nil => simp [putD] at this
      | cons c r =>
        unfold putD at this
        split at this <;> cases this
end
end CF
/-! CFIn -/
/-! All comparisons that are served by values. -/
namespace CF
open PySem L2
/-- the world of a context -/
structure XW (X : Cx) (W : Wld) : Prop where
  P : X.prog = W.P
  w : X.w = W.w
  K : X.K = W.K
  mg : X.mg = W.mg
  room : X.A.units + 200 < cLine
  ok : W.Ok0
theorem any_mem {d : D} {n m : Nat} (hd : layN n d = true) : ∀ {l : List D}, layNs m l = true → ((toPys l).any fun y => PyData.eqv y (toPy d)) = memD d l
  | [], _ => rfl
  | x :: xs, h => by
    simp only [layNs, Bool.and_eq_true] at h
    simp only [toPys, List.any_cons, memD, eqv_eq m n x d h.1 hd, any_mem hd h.2]
section
variable {X : Cx} {W : Wld} {g0 : Gh} {H0 : Hp} {Wx : WX} {env : Env} {σ σ' : St} {st : Sto} {g : Gh} {H : Hp} {pins : List (Addr × Obj)} {s : Shared} {x y : V} {v u : Value} {d1 d2 : D} {r : Bool} {Q : VK}
theorem inSeq (xw : XW X W) {l : List D} {vs : List V} {a : Addr} (I : Inv X pins σ' H s) (rx : RelV x v) (si : SI W g0 H0 env st g σ H) (r1 : RT W g H0 env σ x d1) (h1 : layN LV d1 = true) (hl : layNs LV l = true) (p : RVs g vs l)
    (sq : SqT W.K H a vs ∨ H a = some (.lst vs)) : (Q (.bl (memD d1 l)) H → wpAny (model X.prog X.w) X.A (compareOp .In v (.ref a)) (EP X pins σ' Q) X.xe s) ∧ (Q (.bl (!memD d1 l)) H → wpAny (model X.prog X.w) X.A (compareOp .NotIn v (.ref a)) (EP X pins σ' Q) X.xe s) := by
  obtain ⟨p1, c1⟩ := dpT_of xw.K xw.ok si h1 r1
  obtain ⟨as, q1⟩ := Dp.reads I _ x v p1 rx
  obtain ⟨ps, cs⟩ := dps_of xw.K xw.ok si LV l vs hl p
  have dd := dep_le LV d1 h1
  have hr := xw.room
  have hu0 : X.A.units + 1 + min (PyData.depthAll (toPys l)) (toPy d1).depth < cLine := by
    have : min (PyData.depthAll (toPys l)) (toPy d1).depth ≤ (toPy d1).depth := Nat.min_le_right _ _
    have : LV = 60 := rfl
    omega
  rw [← any_mem h1 hl]
  rcases sq with sq | sq
  · obtain ⟨bs, q2⟩ := Dp.reads I _ (V.ref a) (Value.ref a) (.tup (by rw [xw.K]; exact sq) ps) rfl
    exact ⟨fun q => SeqAt.in_tuple_reads q2 q1 cs c1 hu0 ⟨.bl _, H, I, rfl, q⟩, fun q => SeqAt.notIn_tuple_reads q2 q1 cs c1 hu0 ⟨.bl _, H, I, rfl, q⟩⟩
  · obtain ⟨bs, q2⟩ := Dp.reads I _ (V.ref a) (Value.ref a) (.lst (.of sq) ps) rfl
    exact ⟨fun q => SeqAt.in_list_reads q2 q1 cs c1 hu0 ⟨.bl _, H, I, rfl, q⟩, fun q => SeqAt.notIn_list_reads q2 q1 cs c1 hu0 ⟨.bl _, H, I, rfl, q⟩⟩
theorem keyOk_flat {l : List (D × D)} (h : keyOk l d1 = true) : (∀ m, d1 ≠ .lst m) ∧ ∀ m, d1 ≠ .dct m := by
  cases d1 <;> simp [keyOk, isStr, isTup] at h ⊢
theorem inDct (xw : XW X W) {l : List (D × D)} {a : Addr} {uo : HO} (I : Inv X pins σ' H s) (rx : RelV x v) (si : SI W g0 H0 env st g σ H) (r1 : RT W g H0 env σ x d1) (hk : keyOk l d1 = true) (rd : Rd H a uo) (dd : DctD W g a uo l) :
    (Q (.bl (findK d1 l).isSome) H → wpAny (model X.prog X.w) X.A (compareOp .In v (.ref a)) (EP X pins σ' Q) X.xe s) ∧ (Q (.bl (!(findK d1 l).isSome)) H → wpAny (model X.prog X.w) X.A (compareOp .NotIn v (.ref a)) (EP X pins σ' Q) X.xe s) := by
  have f := df_of xw.P xw.w xw.K xw.ok si.hs I rd dd hk (si.flat r1 (keyOk_flat hk).1 (keyOk_flat hk).2)
  have hr := xw.room
  exact ⟨fun q => dct_in (by omega) I f rd rx fun s' I' => ⟨.bl _, H, I', rfl, q⟩, fun q => dct_notIn (by omega) I f rd rx fun s' I' => ⟨.bl _, H, I', rfl, q⟩⟩
theorem dctAt_so {n : Nat} {l : List (D × D)} (e : dctAt st n = some l) : ∃ o, st[n]? = some o ∧ (o = .dct l ∨ o = .lck l) := by
  unfold dctAt at e
  split at e <;> cases e
  · exact ⟨_, by assumption, .inl rfl⟩
  · exact ⟨_, by assumption, .inr rfl⟩
theorem SI.sdct (si : SI W g0 H0 env st g σ H) {n : Nat} {l : List (D × D)} {x : V} (r : RV g x (.ref n)) (e : dctAt st n = some l) : ∃ a uo, x = .ref a ∧ Rd H a uo ∧ DctD W g a uo l := by
  obtain ⟨o, e1, e2⟩ := dctAt_so e
  obtain ⟨a, ea, _, _, so⟩ := si.at_ r e1
  rcases e2 with e2 | e2
  · subst e2
    obtain ⟨uo, h1, h2⟩ := so
    exact ⟨a, uo, ea, .of h1, h2⟩
  · subst e2
    obtain ⟨_, o, uo, _, h1, h2⟩ := so
    exact ⟨a, uo, ea, .inr ⟨o, h1⟩, h2⟩
theorem SI.slst (si : SI W g0 H0 env st g σ H) {n : Nat} {l : List D} {x : V} (r : RV g x (.ref n)) (e : lstAt st n = some l) : ∃ a vs, x = .ref a ∧ H a = some (.lst vs) ∧ RVs g vs l := by
  unfold lstAt at e
  split at e <;> cases e
  rename_i hn
  obtain ⟨a, ea, _, _, vs, h1, h2⟩ := si.at_ r hn
  exact ⟨a, vs, ea, h1, h2⟩
theorem SI.refT (si : SI W g0 H0 env st g σ H) {n : Nat} {x : V} (r : RT W g H0 env σ x (.ref n)) : RV g x (.ref n) := si.flat r (fun _ e => by cases e) (fun _ e => by cases e)
theorem in_sound (xw : XW X W) (I : Inv X pins σ' H s) (rx : RelV x v) (ry : RelV y u) (si : SI W g0 H0 env st g σ H) (r1 : RT W g H0 env σ x d1) (r2 : RT W g H0 env σ y d2) (e : opIn st d1 d2 = some r) :
    (Q (.bl r) H → wpAny (model X.prog X.w) X.A (compareOp .In v u) (EP X pins σ' Q) X.xe s) ∧ (Q (.bl (!r)) H → wpAny (model X.prog X.w) X.A (compareOp .NotIn v u) (EP X pins σ' Q) X.xe s) := by
  unfold opIn at e
  split at e
  · split at e <;> cases e
    rename_i hl
    simp only [Bool.and_eq_true] at hl
    obtain ⟨a, vs, ea, sq, p⟩ := si.tupT xw.ok r2
    subst ea
    cases ry
    exact inSeq xw I rx si r1 hl.1 hl.2 p (.inl sq)
  · split at e <;> cases e
    rename_i hl
    simp only [Bool.and_eq_true] at hl
    obtain ⟨a, vs, ea, sq, p⟩ := si.lstT xw.ok r2
    subst ea
    cases ry
    exact inSeq xw I rx si r1 hl.1 hl.2 p (.inr sq)
  · rename_i c w
    cases e
    obtain ⟨e1, o1⟩ := si.strT r1
    obtain ⟨e2, o2⟩ := si.strT r2
    subst e1 e2
    have hc : decide (c ∈ (toS w).cps.toList) = w.contains c := by
      rw [Bool.eq_iff_iff, List.contains_iff_mem, decide_eq_true_iff]; simp [toS]
    exact ⟨fun q => op_in_sign pins s σ' H _ _ v u Q I rx ry ⟨c, toS w, rfl, rfl, by rw [hc]; exact q⟩, fun q => op_notIn_sign pins s σ' H _ _ v u Q I rx ry ⟨c, toS w, rfl, rfl, by rw [hc]; exact q⟩⟩
  · split at e <;> cases e
    rename_i hk
    obtain ⟨a, uo, ea, rd, dd⟩ := si.dctT xw.ok r2
    subst ea
    cases ry
    exact inDct xw I rx si r1 hk rd dd
  · rename_i n
    split at e
    · rename_i dl hd
      split at e <;> cases e
      rename_i hk
      obtain ⟨a, uo, ea, rd, dd⟩ := si.sdct (si.refT r2) hd
      subst ea
      cases ry
      exact inDct xw I rx si r1 hk rd dd
    · split at e
      · rename_i l hl
        split at e <;> cases e
        rename_i hh
        simp only [Bool.and_eq_true] at hh
        obtain ⟨a, vs, ea, sq, p⟩ := si.slst (si.refT r2) hl
        subst ea
        cases ry
        exact inSeq xw I rx si r1 hh.1 hh.2 p (.inr sq)
      · cases e
  · cases e
def opC : Cm → CmpOp
  | .eq => .Eq
  | .ne => .NotEq
  | .lt => .Lt
  | .le => .LtE
  | .gt => .Gt
  | .ge => .GtE
  | .isN => .Is
  | .notN => .IsNot
  | .inn => .In
  | .nin => .NotIn
theorem isN_dec (si : SI W g0 H0 env st g σ H) (r1 : RT W g H0 env σ x d1) : decide (x = .non) = isNon d1 := by
  cases d1 with
  | non => rw [(si.flat r1 (fun _ e => by cases e) (fun _ e => by cases e)).non_inv]; rfl
  | bl _ => rw [(si.flat r1 (fun _ e => by cases e) (fun _ e => by cases e)).bl_inv]; rfl
  | int _ => rw [si.intT r1]; rfl
  | str _ => rw [(si.strT r1).1]; rfl
  | tup _ =>
    obtain ⟨a, e, _⟩ := (si.flat r1 (fun _ e => by cases e) (fun _ e => by cases e)).tup_inv
    rw [e]; rfl
  | ref _ =>
    obtain ⟨a, e, _⟩ := (si.flat r1 (fun _ e => by cases e) (fun _ e => by cases e)).ref_inv
    rw [e]; rfl
  | scr _ =>
    obtain ⟨a, e, _⟩ := (si.flat r1 (fun _ e => by cases e) (fun _ e => by cases e)).scr_inv
    rw [e]; rfl
  | lst _ =>
    rcases r1 with r | ⟨i, a, e, _⟩
    · obtain ⟨a, e, _⟩ := r.lst_inv
      rw [e]; rfl
    · rw [e]; rfl
  | dct _ =>
    rcases r1 with r | ⟨i, a, e, _⟩
    · obtain ⟨a, e, _⟩ := r.dct_inv
      rw [e]; rfl
    · rw [e]; rfl
theorem op_cmp (xw : XW X W) (op : Cm) : OpR X (compareOp (opC op)) (rCmp W g0 H0 Wx op) := by
  intro pins s σ' H x y v u Q I rx ry ⟨env, σ, st, g, d1, d2, si, r1, r2, af⟩
  have hr := xw.room
  cases hb : opCmp st op d1 d2 with
  | none => rw [hb] at af; exact af.elim
  | some b =>
    rw [hb] at af
    have q := cmp_fin si af
    clear af
    cases op with
    | eq => exact (eq_sound xw.K xw.ok (by omega) I rx ry si r1 r2 hb).1 q
    | ne =>
      simp only [opCmp] at hb
      cases he : opEq d1 d2 with
      | none => rw [he] at hb; cases hb
      | some c => rw [he] at hb; cases hb; exact (eq_sound xw.K xw.ok (by omega) I rx ry si r1 r2 he).2 q
    | inn => exact (in_sound xw I rx ry si r1 r2 hb).1 q
    | nin =>
      simp only [opCmp] at hb
      cases he : opIn st d1 d2 with
      | none => rw [he] at hb; cases hb
      | some c => rw [he] at hb; cases hb; exact (in_sound xw I rx ry si r1 r2 he).2 q
    | isN =>
      obtain ⟨e2, eb⟩ : d2 = .non ∧ b = isNon d1 := by cases d2 <;> simp [opCmp] at hb ⊢; exact hb.symm
      subst e2 eb
      refine op_isN pins s σ' H x y v u Q I rx ry ⟨(si.flat r2 (fun _ e => by cases e) (fun _ e => by cases e)).non_inv, ?_⟩
      rw [isN_dec si r1]; exact q
    | notN =>
      obtain ⟨e2, eb⟩ : d2 = .non ∧ b = !isNon d1 := by cases d2 <;> simp [opCmp] at hb ⊢; rw [hb]; simp
      subst e2 eb
      refine op_notN pins s σ' H x y v u Q I rx ry ⟨(si.flat r2 (fun _ e => by cases e) (fun _ e => by cases e)).non_inv, ?_⟩
      rw [isN_dec si r1]; exact q
    | lt =>
      obtain ⟨i, j, e1, e2, eb⟩ : ∃ i j, d1 = .int i ∧ d2 = .int j ∧ b = decide (i < j) := by
        cases d1 <;> cases d2 <;> simp [opCmp] at hb ⊢
        exact hb.symm
      subst e1 e2 eb
      cases si.intT r1; cases si.intT r2
      exact op_lt pins s σ' H _ _ v u Q I rx ry ⟨_, _, rfl, rfl, q⟩
    | le =>
      obtain ⟨i, j, e1, e2, eb⟩ : ∃ i j, d1 = .int i ∧ d2 = .int j ∧ b = decide (i ≤ j) := by
        cases d1 <;> cases d2 <;> simp [opCmp] at hb ⊢
        exact hb.symm
      subst e1 e2 eb
      cases si.intT r1; cases si.intT r2
      exact op_le pins s σ' H _ _ v u Q I rx ry ⟨_, _, rfl, rfl, q⟩
    | gt =>
      obtain ⟨i, j, e1, e2, eb⟩ : ∃ i j, d1 = .int i ∧ d2 = .int j ∧ b = decide (j < i) := by
        cases d1 <;> cases d2 <;> simp [opCmp] at hb ⊢
        exact hb.symm
      subst e1 e2 eb
      cases si.intT r1; cases si.intT r2
      exact op_gt pins s σ' H _ _ v u Q I rx ry ⟨_, _, rfl, rfl, q⟩
    | ge =>
      obtain ⟨i, j, e1, e2, eb⟩ : ∃ i j, d1 = .int i ∧ d2 = .int j ∧ b = decide (j ≤ i) := by
        cases d1 <;> cases d2 <;> simp [opCmp] at hb ⊢
        exact hb.symm
      subst e1 e2 eb
      cases si.intT r1; cases si.intT r2
      exact op_ge pins s σ' H _ _ v u Q I rx ry ⟨_, _, rfl, rfl, q⟩
end
end CF
/-! CFSub -/
/-! Subscripts and slices. -/
namespace CF
open PySem PySem.Spec L2
open PyProof.Rows (subscriptTail tail_any)
theorem atI_eq {α : Type} (l : List α) (i : Int) : atI l i = at_ l i := rfl
theorem at_rel {g : Gh} {vs : List V} {l : List D} (p : RVs g vs l) {i : Int} {d : D} (e : at_ l i = some d) : ∃ v, atI vs i = some v ∧ RV g v d := by
  unfold at_ at e
  unfold atI
  rw [pairedLen p]
  have e0 : ixN l.length i = ix l.length i := rfl
  rw [e0]
  cases h : ix l.length i with
  | none => rw [h] at e; cases e
  | some j =>
    rw [h] at e
    replace e : l[j]? = some d := e
    show ∃ v, vs[j]? = some v ∧ RV g v d
    clear h e0
    induction p generalizing j with
    | nil => simp at e
    | cons r t ih =>
      cases j with
      | zero => simp at e; subst e; exact ⟨_, rfl, r⟩
      | succ j => simp at e ⊢; exact ih j e
section
variable {X : Cx} {W : Wld} {g0 : Gh} {H0 : Hp} {Wx : WX} {env : Env} {σ σ' : St} {st : Sto} {g : Gh} {H : Hp} {pins : List (Addr × Obj)} {s : Shared} {x y : V} {v u : Value} {d1 d2 d : D} {Q : VK}
def rSub (W : Wld) (g0 : Gh) (H0 : Hp) (Wx : WX) : R2 := fun x y H Q => ∃ env σ st g d1 d2, SI W g0 H0 env st g σ H ∧ RT W g H0 env σ x d1 ∧ RV g y d2 ∧ Aft W g0 H0 Wx env σ g (R.of (opSub st d1 d2) st) (Val Q)
theorem df_type {a : Addr} {uo : HO} {l : List (D × D)} {k : D} (I : Inv X pins σ' H s) (f : DF X W H g s a uo l k v') (rd : Rd H a uo) : s.TypeIs (.ref a) "dict" := by
  cases f with
  | text kvs w e1 e2 e3 o p n =>
    subst e1
    obtain ⟨_, _, vs, _, dd⟩ := dk_rd I.hok rd
    exact dd.typeIs
  | tupl xs b e1 e2 ht hn hd p n is hsy hz => exact hd.typeIs
theorem subDct (xw : XW X W) {l : List (D × D)} {a : Addr} {uo : HO} {value slice : Expr} (I : Inv X pins σ' H s) (ry : RelV y u) (si : SI W g0 H0 env st g σ H) (r2 : RV g y d2) (hk : keyOk l d2 = true) (rd : Rd H a uo) (dd : DctD W g a uo l) (e : findK d2 l = some d)
    (q : ∀ z, RV g z d → Q z H) (hs : subscripted slice false (.ref a) u = operate [.ref a, u] (getItem (.ref a) u)) : wpAny (model X.prog X.w) X.A (subscriptTail value slice (.ref a) u) (EP X pins σ' Q) X.xe s := by
  have f := df_of xw.P xw.w xw.K xw.ok si.hs I rd dd hk r2
  have hr := xw.room
  exact tail_any (df_type I f rd) slot_dict_getitem.lookup (dct_get (by omega) I f rd ry e fun z w' s' I' rz rg => ⟨z, H, I', rz, q z rg⟩) hs
theorem ix_all (xw : XW X W) : IxR X (rSub W g0 H0 Wx) := by
  intro value slice pins s σ' H x y v u Q I rx ry ⟨env, σ, st, g, d1, d2, si, r1, r2, af⟩ hs
  cases hb : opSub st d1 d2 with
  | none => rw [hb] at af; exact af.elim
  | some d =>
    rw [hb] at af
    have q : ∀ z, RV g z d → Q z H := fun z rz => fin0 si af rz
    clear af
    unfold opSub at hb
    split at hb
    · cases r2.int_inv
      obtain ⟨a, vs, ea, sq, p⟩ := si.tupT xw.ok r1
      subst ea
      obtain ⟨z, ez, rz⟩ := at_rel p hb
      exact ix_tup value slice pins s σ' H _ _ v u Q I rx ry ⟨a, vs, _, z, rfl, rfl, by rw [xw.K]; exact sq, ez, q z rz⟩ hs
    · cases r2.int_inv
      obtain ⟨a, vs, ea, sq, p⟩ := si.lstT xw.ok r1
      subst ea
      obtain ⟨z, ez, rz⟩ := at_rel p hb
      exact ix_list value slice pins s σ' H _ _ v u Q I rx ry ⟨a, vs, _, z, rfl, rfl, .inl (.of sq), ez, q z rz⟩ hs
    · rename_i w i
      split at hb
      · rename_i hz
        cases r2.int_inv
        obtain ⟨e1, o1⟩ := si.strT r1
        subst e1
        cases hc : at_ w i with
        | none => rw [hc] at hb; cases hb
        | some c =>
          rw [hc] at hb
          cases hb
          refine ix_str value slice pins s σ' H _ _ v u Q I rx ry ⟨toS w, i, c, rfl, rfl, by rw [toS_len]; exact le_line hz, hc, q _ ⟨rfl, fun c' hc' => ?_⟩⟩ hs
          simp at hc'
          subst hc'
          refine o1 _ ?_
          unfold at_ at hc
          cases hj : ix w.length i with
          | none => rw [hj] at hc; cases hc
          | some j => rw [hj] at hc; exact List.mem_of_getElem? hc
      · cases hb
    · split at hb
      · rename_i hk
        obtain ⟨a, uo, ea, rd, dd⟩ := si.dctT xw.ok r1
        subst ea
        cases rx
        exact subDct xw I ry si r2 hk rd dd hb q hs
      · cases hb
    · rename_i n
      split at hb
      · rename_i dl hd
        split at hb
        · rename_i hk
          obtain ⟨a, uo, ea, rd, dd⟩ := si.sdct (si.refT r1) hd
          subst ea
          cases rx
          exact subDct xw I ry si r2 hk rd dd hb q hs
        · cases hb
      · split at hb
        · rename_i l i hl
          cases r2.int_inv
          obtain ⟨a, vs, ea, sq, p⟩ := si.slst (si.refT r1) hl
          subst ea
          obtain ⟨z, ez, rz⟩ := at_rel p hb
          exact ix_list value slice pins s σ' H _ _ v u Q I rx ry ⟨a, vs, _, z, rfl, rfl, .inl (.of sq), ez, q z rz⟩ hs
        · cases hb
    · cases hb
/-! ### slices -/
theorem cutI_eq (n d : Nat) (o : Option Int) : HT.sIx n d o = cutI n d o := rfl
theorem pairedDrop {α β : Type} {F : α → β → Prop} {a : List α} {b : List β} (h : Paired F a b) : ∀ n, Paired F (a.drop n) (b.drop n) := by
  induction h with
  | nil => intro n; simp only [List.drop_nil]; exact .nil
  | cons r t ih =>
    intro n
    cases n with
    | zero => exact .cons r t
    | succ n => exact ih n
theorem pairedTake {α β : Type} {F : α → β → Prop} {a : List α} {b : List β} (h : Paired F a b) : ∀ n, Paired F (a.take n) (b.take n) := by
  induction h with
  | nil => intro n; simp only [List.take_nil]; exact .nil
  | cons r t ih =>
    intro n
    cases n with
    | zero => exact .nil
    | succ n => exact .cons r (ih n)
theorem cut_rel {g : Gh} {vs : List V} {l : List D} (p : RVs g vs l) (lo hi : Option Int) : RVs g (cutV vs lo hi) (cut l lo hi) := by
  unfold cutV cut
  rw [pairedLen p]
  exact pairedTake (pairedDrop p _) _
/-- the parts of a slice -/
def OI (l : Option Int) (d : Option D) : Prop := d = l.map .int
def rSlc (W : Wld) (g0 : Gh) (H0 : Hp) (Wx : WX) : V → Option Int → Option Int → Hp → VK → Prop := fun x lo hi H Q => ∃ env σ st g d dl dh, SI W g0 H0 env st g σ H ∧ RT W g H0 env σ x d ∧ OI lo dl ∧ OI hi dh ∧ Aft W g0 H0 Wx env σ g (R.of (opSlc st d dl dh) st) (Val Q)
theorem ofI_map (l : Option Int) : ofI (l.map .int) = some l := by cases l <;> rfl
theorem sl_all (xw : XW X W) : L2.SlR X (rSlc W g0 H0 Wx) := by
  intro pins s σ' H x v vl vu lo hi sl Q I rx hs pl pu ⟨env, σ, st, g, d, dl, dh, si, r, e1, e2, af⟩
  subst e1 e2
  unfold opSlc at af
  rw [ofI_map, ofI_map] at af
  simp only at af
  split at af
  · rename_i l
    obtain ⟨a, vs, ea, sq, p⟩ := si.tupT xw.ok r
    subst ea
    refine sl_tupN pins s σ' H _ v vl vu lo hi sl Q I rx hs pl pu ⟨a, vs, rfl, by rw [xw.K]; exact sq, fun hw => ?_, fun _ => finT si af (cut_rel p lo hi)⟩
    have rr := si.flat r (fun _ e => by cases e) (fun _ e => by cases e)
    have el : cut l lo hi = l := by
      unfold cut
      rw [pairedLen p] at hw
      obtain ⟨h1, h2⟩ := hw
      have h1' : cutI l.length 0 lo = 0 := h1
      have h2' : cutI l.length l.length hi = l.length := h2
      rw [h1', h2']
      simp
    rw [el] at af
    exact fin0 si af rr
  · rename_i l
    obtain ⟨a, vs, ea, sq, p⟩ := si.lstT xw.ok r
    subst ea
    exact sl_list pins s σ' H _ v vl vu lo hi sl Q I rx hs pl pu ⟨a, vs, rfl, .inl (.of sq), finL si af (cut_rel p lo hi)⟩
  · rename_i w
    split at af
    · rename_i hz
      obtain ⟨e1, o1⟩ := si.strT r
      subst e1
      refine sl_str pins s σ' H _ v vl vu lo hi sl Q I rx hs pl pu ⟨toS w, rfl, by rw [toS_len]; exact le_line hz, fin0 si af ⟨?_, fun c hc => o1 c ?_⟩⟩
      · unfold cutS cut toS
        simp only [Str.length, List.size_toArray]
        rfl
      · exact List.mem_of_mem_drop (List.mem_of_mem_take hc)
    · exact af.elim
  · rename_i n
    cases hl : lstAt st n with
    | none => rw [hl] at af; exact af.elim
    | some l =>
      rw [hl] at af
      obtain ⟨a, vs, ea, sq, p⟩ := si.slst (si.refT r) hl
      subst ea
      exact sl_list pins s σ' H _ v vl vu lo hi sl Q I rx hs pl pu ⟨a, vs, rfl, .inl (.of sq), finL si af (cut_rel p lo hi)⟩
  · exact af.elim
end
end CF
/-! CFSort -/
/-! sorted. -/
namespace CF
open PySem L2
mutual
theorem alike_of : ∀ a b : D, alikeD a b = true → W.alike (toPy a) (toPy b) = true
  | .bl _, .bl _, _ => rfl
  | .int _, .int _, _ => rfl
  | .str _, .str _, _ => rfl
  | .lst x, .lst y, h => by simp only [toPy, W.alike]; exact alikes_of x y h
  | .tup x, .tup y, h => by simp only [toPy, W.alike]; exact alikes_of x y h
  | .non, b, h => by cases b <;> cases h
  | .dct _, b, h => by cases b <;> cases h
  | .ref _, b, h => by cases b <;> cases h
  | .scr _, b, h => by cases b <;> cases h
  | .bl _, .non, h => by cases h
  | .bl _, .int _, h => by cases h
  | .bl _, .str _, h => by cases h
  | .bl _, .tup _, h => by cases h
  | .bl _, .lst _, h => by cases h
  | .bl _, .dct _, h => by cases h
  | .bl _, .ref _, h => by cases h
  | .bl _, .scr _, h => by cases h
  | .int _, .non, h => by cases h
  | .int _, .bl _, h => by cases h
  | .int _, .str _, h => by cases h
  | .int _, .tup _, h => by cases h
  | .int _, .lst _, h => by cases h
  | .int _, .dct _, h => by cases h
  | .int _, .ref _, h => by cases h
  | .int _, .scr _, h => by cases h
  | .str _, .non, h => by cases h
  | .str _, .bl _, h => by cases h
  | .str _, .int _, h => by cases h
  | .str _, .tup _, h => by cases h
  | .str _, .lst _, h => by cases h
  | .str _, .dct _, h => by cases h
  | .str _, .ref _, h => by cases h
  | .str _, .scr _, h => by cases h
  | .tup _, .non, h => by cases h
  | .tup _, .bl _, h => by cases h
  | .tup _, .int _, h => by cases h
  | .tup _, .str _, h => by cases h
  | .tup _, .lst _, h => by cases h
  | .tup _, .dct _, h => by cases h
  | .tup _, .ref _, h => by cases h
  | .tup _, .scr _, h => by cases h
  | .lst _, .non, h => by cases h
  | .lst _, .bl _, h => by cases h
  | .lst _, .int _, h => by cases h
  | .lst _, .str _, h => by cases h
  | .lst _, .tup _, h => by cases h
  | .lst _, .dct _, h => by cases h
  | .lst _, .ref _, h => by cases h
  | .lst _, .scr _, h => by cases h
theorem alikes_of : ∀ a b : List D, alikeDs a b = true → W.alikeAll (toPys a) (toPys b) = true
  | [], y, _ => by cases y <;> simp [toPys, W.alikeAll]
  | _ :: _, [], _ => by simp [toPys, W.alikeAll]
  | x :: xs, y :: ys, h => by
    simp only [alikeDs, Bool.and_eq_true] at h
    simp only [toPys, W.alikeAll, alike_of x y h.1, alikes_of xs ys h.2, Bool.and_self]
end
theorem eqv_lay {a b : D} (h : layN LV a = true) (k : layN LV b = true) : PyData.eqv (toPy a) (toPy b) = eqD a b := eqv_eq LV LV a b h k
mutual
theorem lt_of : ∀ (n m : Nat) (a b : D), layN n a = true → layN m b = true → alikeD a b = true → W.dataLt (toPy a) (toPy b) = ltD a b
  | _, _, .bl a, .bl b, _, _, _ => by
    refine (W.dataLt_bool a b).trans ?_
    cases a <;> cases b <;> rfl
  | _, _, .int a, .int b, _, _, _ => W.dataLt_int a b
  | _, _, .str a, .str b, _, _, _ => by
    refine (W.dataLt_str (toS a) (toS b)).trans ?_
    show _ = decide (a < b)
    rw [Bool.eq_iff_iff, decide_eq_true_iff, decide_eq_true_iff]
    simp [toS]
  | n, m, .lst x, .lst y, hn, hm, h => by
    cases n with
    | zero => cases hn
    | succ n =>
      cases m with
      | zero => cases hm
      | succ m => exact lts_of n m x y hn hm h
  | n, m, .tup x, .tup y, hn, hm, h => by
    cases n with
    | zero => cases hn
    | succ n =>
      cases m with
      | zero => cases hm
      | succ m => exact lts_of n m x y hn hm h
  | _, _, .non, b, _, _, h => by cases b <;> cases h
  | _, _, .dct _, b, _, _, h => by cases b <;> cases h
  | _, _, .ref _, b, _, _, h => by cases b <;> cases h
  | _, _, .scr _, b, _, _, h => by cases b <;> cases h
  | _, _, .bl _, .non, _, _, h => by cases h
  | _, _, .bl _, .int _, _, _, h => by cases h
  | _, _, .bl _, .str _, _, _, h => by cases h
  | _, _, .bl _, .tup _, _, _, h => by cases h
  | _, _, .bl _, .lst _, _, _, h => by cases h
  | _, _, .bl _, .dct _, _, _, h => by cases h
  | _, _, .bl _, .ref _, _, _, h => by cases h
  | _, _, .bl _, .scr _, _, _, h => by cases h
  | _, _, .int _, .non, _, _, h => by cases h
  | _, _, .int _, .bl _, _, _, h => by cases h
  | _, _, .int _, .str _, _, _, h => by cases h
  | _, _, .int _, .tup _, _, _, h => by cases h
  | _, _, .int _, .lst _, _, _, h => by cases h
  | _, _, .int _, .dct _, _, _, h => by cases h
  | _, _, .int _, .ref _, _, _, h => by cases h
  | _, _, .int _, .scr _, _, _, h => by cases h
  | _, _, .str _, .non, _, _, h => by cases h
  | _, _, .str _, .bl _, _, _, h => by cases h
  | _, _, .str _, .int _, _, _, h => by cases h
  | _, _, .str _, .tup _, _, _, h => by cases h
  | _, _, .str _, .lst _, _, _, h => by cases h
  | _, _, .str _, .dct _, _, _, h => by cases h
  | _, _, .str _, .ref _, _, _, h => by cases h
  | _, _, .str _, .scr _, _, _, h => by cases h
  | _, _, .tup _, .non, _, _, h => by cases h
  | _, _, .tup _, .bl _, _, _, h => by cases h
  | _, _, .tup _, .int _, _, _, h => by cases h
  | _, _, .tup _, .str _, _, _, h => by cases h
  | _, _, .tup _, .lst _, _, _, h => by cases h
  | _, _, .tup _, .dct _, _, _, h => by cases h
  | _, _, .tup _, .ref _, _, _, h => by cases h
  | _, _, .tup _, .scr _, _, _, h => by cases h
  | _, _, .lst _, .non, _, _, h => by cases h
  | _, _, .lst _, .bl _, _, _, h => by cases h
  | _, _, .lst _, .int _, _, _, h => by cases h
  | _, _, .lst _, .str _, _, _, h => by cases h
  | _, _, .lst _, .tup _, _, _, h => by cases h
  | _, _, .lst _, .dct _, _, _, h => by cases h
  | _, _, .lst _, .ref _, _, _, h => by cases h
  | _, _, .lst _, .scr _, _, _, h => by cases h
theorem lts_of : ∀ (n m : Nat) (a b : List D), layNs n a = true → layNs m b = true → alikeDs a b = true → W.rowLt (toPys a) (toPys b) = ltDs a b
  | _, _, [], [], _, _, _ => by rfl
  | _, _, [], _ :: _, _, _, _ => by rfl
  | _, _, _ :: _, [], _, _, _ => by rfl
  | n, m, x :: xs, y :: ys, hn, hm, h => by
    simp only [alikeDs, Bool.and_eq_true] at h
    simp only [layNs, Bool.and_eq_true] at hn hm
    simp only [toPys, W.rowLt, ltDs]
    rw [W.dataLt_cons (alike_of x y h.1), eqv_eq n m x y hn.1 hm.1]
    have e := lts_of n m xs ys hn.2 hm.2 h.2
    unfold W.rowLt at e
    rw [e, lt_of n m x y hn.1 hm.1 h.1]
end

/-! ### insertion is THE stable sort -/
section
variable {α : Type} {le : α → α → Bool}
theorem insBy_mem {lt : α → α → Bool} {x z : α} : ∀ {l : List α}, z ∈ insBy lt x l ↔ z = x ∨ z ∈ l
  | [] => by simp [insBy]
  | y :: r => by
    unfold insBy
    split
    · simp
    · simp only [List.mem_cons, insBy_mem (l := r)]
      constructor
      · rintro (h | h | h)
        · exact .inr (.inl h)
        · exact .inl h
        · exact .inr (.inr h)
      · rintro (h | h | h)
        · exact .inr (.inl h)
        · exact .inl h
        · exact .inr (.inr h)
theorem insBy_pw (h : W.TotalLe le) (x : α) : ∀ {l : List α}, l.Pairwise (fun a b => le a b = true) → (insBy (fun a b => !le b a) x l).Pairwise (fun a b => le a b = true)
  | [], _ => by simp [insBy]
  | y :: r, p => by
    have p' := List.pairwise_cons.mp p
    unfold insBy
    split
    · rename_i hc
      have hc : le y x = false := by simpa using hc
      have hxy : le x y = true := (h.total x y).elim id fun e => by rw [hc] at e; cases e
      exact List.pairwise_cons.mpr ⟨fun z hz => (List.mem_cons.mp hz).elim (fun e => e ▸ hxy) fun m => h.trans x y z hxy (p'.1 z m), p⟩
    · rename_i hc
      have hc : le y x = true := by simpa using hc
      exact List.pairwise_cons.mpr ⟨fun z hz => (insBy_mem.mp hz).elim (fun e => e ▸ hc) (p'.1 z), insBy_pw h x p'.2⟩
theorem insBy_filter (h : W.TotalLe le) (x c : α) : ∀ {l : List α}, l.Pairwise (fun a b => le a b = true) → (insBy (fun a b => !le b a) x l).filter (W.sameRank le c) = l.filter (W.sameRank le c) ++ (if W.sameRank le c x = true then [x] else [])
  | [], _ => by simp only [insBy, List.filter_cons, List.filter_nil, List.nil_append]
  | y :: r, p => by
    have p' := List.pairwise_cons.mp p
    unfold insBy
    split
    · rename_i hc
      have hc : le y x = false := by simpa using hc
      by_cases hs : W.sameRank le c x = true
      · have none : ∀ z ∈ y :: r, W.sameRank le c z = false := fun z hz => by
          cases q : W.sameRank le c z with
          | false => rfl
          | true =>
            unfold W.sameRank at hs q
            rw [Bool.and_eq_true] at hs q
            have hyz : le y z = true := (List.mem_cons.mp hz).elim (fun e => e ▸ h.refl y) (p'.1 z)
            rw [h.trans y c x (h.trans y z c hyz q.2) hs.1] at hc
            cases hc
        rw [List.filter_cons, if_pos hs, if_pos hs, List.filter_eq_nil_iff.mpr fun z hz => by rw [none z hz]; simp]
        rfl
      · rw [List.filter_cons, if_neg hs, if_neg hs, List.append_nil]
    · rw [List.filter_cons, List.filter_cons, insBy_filter h x c p'.2]
      split
      · rfl
      · rfl
theorem sortBy_go (h : W.TotalLe le) (c : α) : ∀ (l acc : List α), acc.Pairwise (fun a b => le a b = true) → (l.foldl (fun acc x => insBy (fun a b => !le b a) x acc) acc).Pairwise (fun a b => le a b = true) ∧ (l.foldl (fun acc x => insBy (fun a b => !le b a) x acc) acc).filter (W.sameRank le c) = acc.filter (W.sameRank le c) ++ l.filter (W.sameRank le c)
  | [], acc, p => ⟨p, by simp⟩
  | x :: r, acc, p => by
    obtain ⟨h1, h2⟩ := sortBy_go h c r _ (insBy_pw h x p)
    refine ⟨h1, ?_⟩
    rw [List.foldl_cons, h2, insBy_filter h x c p, List.append_assoc]
    congr 1
    rw [List.filter_cons]
    split <;> rfl
theorem sortBy_merge (h : W.TotalLe le) (l : List α) : sortBy (fun a b => !le b a) l = l.mergeSort le := by
  refine W.sort_unique h ?_ fun c => ?_
  · cases l with
    | nil => exact List.Pairwise.nil
    | cons x r => exact (sortBy_go h x (x :: r) [] .nil).1
  · exact ((sortBy_go h c l [] .nil).2).trans (by simp)
theorem insBy_congr {lt lt' : α → α → Bool} (x : α) : ∀ {l : List α}, (∀ b ∈ l, lt x b = lt' x b) → insBy lt x l = insBy lt' x l
  | [], _ => rfl
  | y :: r, h => by
    unfold insBy
    rw [h y (List.mem_cons_self), insBy_congr x fun b hb => h b (List.mem_cons_of_mem _ hb)]
theorem sortBy_congr_go {lt lt' : α → α → Bool} : ∀ (l acc : List α), (∀ a ∈ l, ∀ b, b ∈ acc ∨ b ∈ l → lt a b = lt' a b) → l.foldl (fun acc x => insBy lt x acc) acc = l.foldl (fun acc x => insBy lt' x acc) acc
  | [], _, _ => rfl
  | x :: r, acc, h => by
    rw [List.foldl_cons, List.foldl_cons, insBy_congr x fun b hb => h x List.mem_cons_self b (.inl hb)]
    refine sortBy_congr_go r _ fun a ha b hb => h a (List.mem_cons_of_mem _ ha) b ?_
    rcases hb with hb | hb
    · rcases insBy_mem.mp hb with e | e
      · exact .inr (e ▸ List.mem_cons_self)
      · exact .inl e
    · exact .inr (List.mem_cons_of_mem _ hb)
theorem sortBy_congr {lt lt' : α → α → Bool} {l : List α} (h : ∀ a ∈ l, ∀ b ∈ l, lt a b = lt' a b) : sortBy lt l = sortBy lt' l := sortBy_congr_go l [] fun a ha b hb => h a ha b (hb.elim (fun e => by cases e) id)
end
theorem dataLe_total {β : Type} (k : β → PyData) : W.TotalLe (W.dataLe false k) := W.sortLe_total _ false _
theorem sort_data {l : List D} (h : sortOk l = true) : l.mergeSort (W.dataLe false toPy) = sortBy ltD l := by
  rw [← sortBy_merge (dataLe_total toPy)]
  refine sortBy_congr fun a ha b hb => ?_
  unfold sortOk at h
  simp only [Bool.and_eq_true, List.all_eq_true] at h
  rw [W.dataLe_eq]
  simp only [cond_false, Bool.not_not]
  exact lt_of LV LV a b (h.1.2 a ha) (h.1.2 b hb) (h.1.1 a ha b hb)
theorem toPys_map : ∀ l : List D, toPys l = l.map toPy
  | [] => rfl
  | x :: r => by simp [toPys, toPys_map r]
theorem sortable_of {l : List D} (h : sortOk l = true) : W.Sortable (l.map toPy) := by
  unfold sortOk at h
  simp only [Bool.and_eq_true, Bool.or_eq_true, List.all_eq_true] at h
  rcases h.2 with k | k
  · refine .inl fun d hd => ?_
    obtain ⟨b, hb, e⟩ := List.mem_map.mp hd
    have := k b hb
    cases b with
    | tup x =>
      cases x with
      | nil => cases this
      | cons y r => exact ⟨toPy y, toPys r, e.symm⟩
    | _ => cases this
  · refine .inr fun d hd => ?_
    obtain ⟨b, hb, e⟩ := List.mem_map.mp hd
    have h1 := k b hb
    have h2 := h.1.1 b hb b hb
    subst e
    cases b with
    | tup _ => cases h1
    | non => cases h2
    | dct _ => cases h2
    | ref _ => cases h2
    | scr _ => cases h2
    | _ => exact ⟨fun e => (by cases e), fun xs e => (by cases e)⟩
theorem allAlike_of {l : List D} (h : sortOk l = true) : W.AllAlike (l.map toPy) := by
  unfold sortOk at h
  simp only [Bool.and_eq_true, List.all_eq_true] at h
  intro d hd d' hd'
  obtain ⟨b, hb, e⟩ := List.mem_map.mp hd
  obtain ⟨b', hb', e'⟩ := List.mem_map.mp hd'
  subst e e'
  exact alike_of b b' (h.1.1 b hb b' hb')
end CF
/-! CFPrim -/
/-! Built-in functions. -/
namespace CF
open PySem PySem.Spec L2
def rPrim (W : Wld) (g0 : Gh) (H0 : Hp) (Wx : WX) (p : Pr) : List V → Hp → VK → Prop := fun xs H Q => ∃ env σ st g ds, SI W g0 H0 env st g σ H ∧ Paired (RT W g H0 env σ) xs ds ∧ Aft W g0 H0 Wx env σ g (R.of (prim st p ds) st) (Nw W H0 env σ Q)
section
variable {X : Cx} {W : Wld} {g0 : Gh} {H0 : Hp} {Wx : WX} {env : Env} {σ σ' : St} {st : Sto} {g : Gh} {H : Hp} {pins : List (Addr × Obj)} {s : Shared} {x y : V} {v u : Value} {d1 d2 d : D} {Q : VK} {xs : List V} {ds : List D}
theorem p1 (h : Paired (RT W g H0 env σ) xs [d]) : ∃ x, xs = [x] ∧ RT W g H0 env σ x d := by
  cases h with
  | cons r t => cases t; exact ⟨_, rfl, r⟩
theorem p2 (h : Paired (RT W g H0 env σ) xs [d1, d2]) : ∃ x y, xs = [x, y] ∧ RT W g H0 env σ x d1 ∧ RT W g H0 env σ y d2 := by
  cases h with
  | cons r t =>
    obtain ⟨y, e, r2⟩ := p1 t
    subst e
    exact ⟨_, _, rfl, r, r2⟩
/-- a list, a tuple, as items -/
theorem SI.items (ok : W.Ok0) (si : SI W g0 H0 env st g σ H) {l : List D} (r : RT W g H0 env σ x d) (e : itemsOf st d = some l) : ∃ a vs, x = .ref a ∧ (SqT W.K H a vs ∨ H a = some (.lst vs)) ∧ RVs g vs l := by
  unfold itemsOf at e
  split at e
  · cases e
    obtain ⟨a, vs, h1, h2, h3⟩ := si.lstT ok r
    exact ⟨a, vs, h1, .inr h2, h3⟩
  · cases e
    obtain ⟨a, vs, h1, h2, h3⟩ := si.tupT ok r
    exact ⟨a, vs, h1, .inl h2, h3⟩
  · obtain ⟨a, vs, h1, h2, h3⟩ := si.slst (si.refT r) e
    exact ⟨a, vs, h1, .inr h2, h3⟩
  · cases e
theorem SI.list (ok : W.Ok0) (si : SI W g0 H0 env st g σ H) {l : List D} (r : RT W g H0 env σ x d) (e : listOf st d = some l) : ∃ a vs, x = .ref a ∧ H a = some (.lst vs) ∧ RVs g vs l := by
  unfold listOf at e
  split at e
  · cases e
    exact si.lstT ok r
  · exact si.slst (si.refT r) e
  · cases e
theorem sqLT (xw : XW X W) {a : Addr} {vs : List V} (h : SqT W.K H a vs ∨ H a = some (.lst vs)) : SqL X.K H a vs ∨ SqT X.K H a vs := by
  rw [xw.K]
  exact h.elim .inr fun h => .inl (.of h)
theorem cr_len (xw : XW X W) : CallR X (.builtin "len") (rPrim W g0 H0 Wx .len) := by
  intro pins s σ' H xs us Q I rs ⟨env, σ, st, g, ds, si, rr, af⟩
  cases hb : prim st .len ds with
  | none => rw [hb] at af; exact af.elim
  | some d =>
    rw [hb] at af
    have q : ∀ i : Int, d = .int i → Q (.int i) H := fun i ei => by subst ei; exact fin0N si af rfl
    clear af
    replace hb : pLen st ds = some d := hb
    have seq : ∀ {x : D} {l : List D}, ds = [x] → itemsOf st x = some l → d = .int l.length → wpAny (model X.prog X.w) X.A (call (.builtin "len") us) (EP X pins σ' Q) X.xe s := fun {x l} e1 e2 e3 => by
      subst e1 e3
      obtain ⟨x, ex, r⟩ := p1 rr
      obtain ⟨a, vs, ea, h2, h3⟩ := si.items xw.ok r e2
      subst ex ea
      exact call_len_seq pins s σ' H _ us Q I rs ⟨a, vs, rfl, sqLT xw h2, by rw [pairedLen h3]; exact q _ rfl⟩
    have dct : ∀ {x : D} {l : List (D × D)} {a : Addr} {uo : HO}, xs = [.ref a] → Rd H a uo → DctD W g a uo l → d = .int l.length → wpAny (model X.prog X.w) X.A (call (.builtin "len") us) (EP X pins σ' Q) X.xe s := fun {x l a uo} e1 rd dd e3 => by
      subst e1 e3
      obtain ⟨u, eu, rx⟩ := vals1 rs
      subst eu
      cases rx
      exact dct_len xw.P xw.w xw.K xw.ok si.hs I rd dd fun t s' I' => ⟨.int l.length, H, I', ⟨t, rfl⟩, q _ rfl⟩
    unfold pLen at hb
    split at hb
    · rename_i w
      split at hb <;> cases hb
      rename_i hz
      obtain ⟨x, ex, r⟩ := p1 rr
      obtain ⟨e1, o1⟩ := si.strT r
      subst ex e1
      exact call_len_str pins s σ' H _ us Q I rs ⟨toS w, rfl, by rw [toS_len]; exact le_line hz, by rw [toS_len]; exact q _ rfl⟩
    · split at hb <;> cases hb
      rename_i hl
      obtain ⟨x, ex, r⟩ := p1 rr
      obtain ⟨a, uo, ea, rd, dd⟩ := si.dctT xw.ok r
      subst ex ea
      exact dct (x := .non) rfl rd dd rfl
    · rename_i n
      split at hb
      · rename_i l hl
        cases hb
        exact seq rfl hl rfl
      · cases hd : dctAt st n with
        | none => rw [hd] at hb; cases hb
        | some dl =>
          rw [hd] at hb
          simp only [Option.bind_some] at hb
          split at hb <;> cases hb
          rename_i hl
          obtain ⟨x, ex, r⟩ := p1 rr
          obtain ⟨a, uo, ea, rd, dd⟩ := si.sdct (si.refT r) hd
          subst ex ea
          exact dct (x := .non) rfl rd dd rfl
    · rename_i x _ _ _
      cases hi : itemsOf st x with
      | none => rw [hi] at hb; cases hb
      | some l => rw [hi] at hb; cases hb; exact seq rfl hi rfl
    · cases hb
/-- the keys of a dict, as a list -/
theorem pk_vals {kvs : List (Key × V)} {l : List (D × D)} (p : PK g kvs l) : RVs g (kvs.map fun kv => kV kv.1) (l.map (·.1)) := by
  induction p with
  | nil => exact .nil
  | cons hd t ih =>
    obtain ⟨⟨w, e1, e2, o⟩, _⟩ := hd
    refine .cons ?_ ih
    have e1' : ((fun x : D × D => x.1) _) = D.str w := e1
    rw [e1']
    show RV g (kV _) _
    rw [e2]
    exact ⟨rfl, o⟩
theorem pt_vals {xs : List (NestedKey × Addr × Value)} {l : List (D × D)} (p : PT' g xs l) : RVs g (xs.map fun x => V.ref x.2.1) (l.map (·.1)) := by
  induction p with
  | nil => exact .nil
  | cons hd t ih => exact .cons hd.2.2.2.1 ih
theorem vals_keys : ∀ ks : List (NestedKey × Addr × Value), Vals (ks.map fun x => V.ref x.2.1) (ks.map fun x => Value.ref x.2.1)
  | [] => .nil
  | _ :: r => .cons rfl (vals_keys r)
theorem rd_dto {a : Addr} {xs : List (NestedKey × Addr × Value)} (I : Inv X pins σ' H s) (rd : Rd H a (DTO W.P W.w a xs)) : ∃ o es ep, s.heap.get? a = some o ∧ o.ExactDict ∧ o.data = .dict es ep ∧ es.toList = xs.map (entryOfKey (nestedKind W.P W.w)) := (rd_of I.hok rd).1
theorem list_dct (xw : XW X W) (hc : X.calm = true) {l : List (D × D)} {a : Addr} {uo : HO} (I : Inv X pins σ' H s) (rd : Rd H a uo) (dd : DctD W g a uo l) (q : ∀ p vs, H p = none → RVs g vs (l.map (·.1)) → Q (.ref p) (upd H p (.lst vs))) : wpAny (model X.prog X.w) X.A (call (.type "list") [.ref a]) (EP X pins σ' Q) X.xe s := by
  rcases dd with ⟨kvs, e, p, n⟩ | ⟨ks, e, pr, n, hsy, hz, hx⟩
  · subst e
    exact call_listD hc pins s σ' H [.ref a] [.ref a] Q I (.cons rfl .nil) ⟨a, kvs, rfl, rd, fun p' hp => q p' _ hp (pk_vals p)⟩
  · subst e
    obtain ⟨o, es, ep, ho, hx, hdt, he⟩ := rd_dto I rd
    have l1 : es.size = ks.length := size_of_entries he
    refine PySem.W.kdl_call (kdl_raw hsy hx hdt) (I.ok.hd hc) ho (by omega) fun h' tk acc' c' kp e it => ?_
    have ea : acc'.toList = ks.map fun x => Value.ref x.2.1 := by
      have hl : acc'.toList.length = ks.length := by rw [Array.length_toList, it.1]; exact l1
      refine List.ext_getElem? fun j => ?_
      rw [List.getElem?_map]
      cases hj : acc'.toList[j]? with
      | none =>
        have h1 := List.getElem?_eq_none_iff.mp hj
        rw [List.getElem?_eq_none (by omega)]
        rfl
      | some v =>
        obtain ⟨en, hen, hv⟩ := it.2 j v (by rw [← Array.getElem?_toList]; exact hj)
        have qe := entry_at he j
        rw [hen] at qe
        cases hb : ks[j]? with
        | none => rw [hb] at qe; cases qe
        | some b =>
          rw [hb] at qe
          have e2 := Option.some.inj qe
          rw [hv, e2]
          rfl
    have rv : Vals (ks.map fun x => V.ref x.2.1) acc'.toList := by
      rw [ea]
      exact vals_keys ks
    refine ⟨.ref s.heap.objs.size, _, I.laid (t' := tk) (o := .lst (ks.map fun x => V.ref x.2.1)) kp (Nat.le_refl _) ?_, rfl, q _ _ (I.hok.fresh (Nat.le_refl _)) (pt_vals pr)⟩
    exact ⟨by rw [List.length_map]; exact hz, acc'.toList, c', rv, by rw [Array.toArray_toList]; exact e⟩
theorem cr_list (xw : XW X W) (hc : X.calm = true) : CallR X (.type "list") (rPrim W g0 H0 Wx .list) := by
  intro pins s σ' H xs us Q I rs ⟨env, σ, st, g, ds, si, rr, af⟩
  replace af : Aft W g0 H0 Wx env σ g (R.of (pList st ds) st) (Nw W H0 env σ Q) := af
  unfold pList at af
  split at af
  · rename_i x
    obtain ⟨xv, ex, r⟩ := p1 rr
    subst ex
    split at af
    · rename_i l hk
      have fin : ∀ p vs, H p = none → RVs g vs l → Q (.ref p) (upd H p (.lst vs)) := fun p vs hp rv => finLN si af rv p hp
      obtain ⟨u, eu, rx⟩ := vals1 rs
      subst eu
      unfold keysOf at hk
      split at hk
      · cases hk
        obtain ⟨a, uo, ea, rd, dd⟩ := si.dctT xw.ok r
        subst ea
        cases rx
        exact list_dct xw hc I rd dd fin
      · rename_i n
        cases hd : dctAt st n with
        | none => rw [hd] at hk; cases hk
        | some dl =>
          rw [hd] at hk
          cases hk
          obtain ⟨a, uo, ea, rd, dd⟩ := si.sdct (si.refT r) hd
          subst ea
          cases rx
          exact list_dct xw hc I rd dd fin
      · cases hk
    · cases hi : itemsOf st x with
      | none => rw [hi] at af; exact af.elim
      | some l =>
        rw [hi] at af
        obtain ⟨a, vs, ea, h2, h3⟩ := si.items xw.ok r hi
        subst ea
        exact call_list_of pins s σ' H _ us Q I rs ⟨a, vs, rfl, sqLT xw h2, finLN si af h3⟩
  · exact af.elim
theorem cr_tuple (xw : XW X W) : CallR X (.type "tuple") (rPrim W g0 H0 Wx .tuple) := by
  intro pins s σ' H xs us Q I rs ⟨env, σ, st, g, ds, si, rr, af⟩
  replace af : Aft W g0 H0 Wx env σ g (R.of (pTuple st ds) st) (Nw W H0 env σ Q) := af
  unfold pTuple at af
  split at af
  · rename_i x
    obtain ⟨xv, ex, r⟩ := p1 rr
    subst ex
    cases hi : itemsOf st x with
    | none => rw [hi] at af; exact af.elim
    | some l =>
      rw [hi] at af
      replace af : Aft W g0 H0 Wx env σ g (.ok (.tup l) st) (Nw W H0 env σ Q) := af
      unfold itemsOf at hi
      split at hi
      · cases hi
        obtain ⟨a, vs, h1, h2, h3⟩ := si.lstT xw.ok r
        subst h1
        exact call_tupN pins s σ' H _ us Q I rs ⟨a, vs, rfl, .of h2, finTN si af h3⟩
      · cases hi
        obtain ⟨a, vs, h1, h2, h3⟩ := si.tupT xw.ok r
        subst h1
        exact call_tuple_of pins s σ' H _ us Q I rs ⟨a, vs, rfl, .inr ⟨by rw [xw.K]; exact h2, fin0N si af (si.flat r (fun _ e => (by cases e)) fun _ e => (by cases e))⟩⟩
      · obtain ⟨a, vs, h1, h2, h3⟩ := si.slst (si.refT r) hi
        subst h1
        exact call_tupN pins s σ' H _ us Q I rs ⟨a, vs, rfl, .of h2, finTN si af h3⟩
      · cases hi
  · exact af.elim
/-! ### lists of one kind -/
theorem ints_rv : ∀ {l : List D} {is : List Int} {vs : List V}, intsOf l = some is → RVs g vs l → vs = is.map V.int
  | [], _, _, h, .nil => by cases h; rfl
  | .int i :: r, is, _, h, .cons q t => by
    cases hr : intsOf r with
    | none => simp [intsOf, hr] at h
    | some js =>
      simp [intsOf, hr] at h
      subst h
      rw [q.int_inv, ints_rv hr t]
      rfl
  | .non :: _, _, _, h, _ => by cases h
  | .bl _ :: _, _, _, h, _ => by cases h
  | .str _ :: _, _, _, h, _ => by cases h
  | .tup _ :: _, _, _, h, _ => by cases h
  | .lst _ :: _, _, _, h, _ => by cases h
  | .dct _ :: _, _, _, h, _ => by cases h
  | .ref _ :: _, _, _, h, _ => by cases h
  | .scr _ :: _, _, _, h, _ => by cases h
theorem bls_rv : ∀ {l : List D} {bs : List Bool} {vs : List V}, blsOf l = some bs → RVs g vs l → vs = bs.map V.bl
  | [], _, _, h, .nil => by cases h; rfl
  | .bl i :: r, is, _, h, .cons q t => by
    cases hr : blsOf r with
    | none => simp [blsOf, hr] at h
    | some js =>
      simp [blsOf, hr] at h
      subst h
      rw [q.bl_inv, bls_rv hr t]
      rfl
  | .non :: _, _, _, h, _ => by cases h
  | .int _ :: _, _, _, h, _ => by cases h
  | .str _ :: _, _, _, h, _ => by cases h
  | .tup _ :: _, _, _, h, _ => by cases h
  | .lst _ :: _, _, _, h, _ => by cases h
  | .dct _ :: _, _, _, h, _ => by cases h
  | .ref _ :: _, _, _, h, _ => by cases h
  | .scr _ :: _, _, _, h, _ => by cases h
theorem cr_sumP (xw : XW X W) (hc : X.calm = true) : CallR X (.builtin "sum") (rPrim W g0 H0 Wx .sum) := by
  intro pins s σ' H xs us Q I rs ⟨env, σ, st, g, ds, si, rr, af⟩
  replace af : Aft W g0 H0 Wx env σ g (R.of (pSum st ds) st) (Nw W H0 env σ Q) := af
  unfold pSum at af
  split at af
  · rename_i x
    obtain ⟨xv, ex, r⟩ := p1 rr
    subst ex
    cases hi : listOf st x with
    | none => rw [hi] at af; exact af.elim
    | some l =>
      rw [hi] at af
      simp only [Option.bind_some] at af
      cases hn : intsOf l with
      | none => rw [hn] at af; exact af.elim
      | some is =>
        rw [hn] at af
        obtain ⟨a, vs, h1, h2, h3⟩ := si.list xw.ok r hi
        subst h1
        rw [ints_rv hn h3] at h2
        exact L2.cr_sum hc pins s σ' H _ us Q I rs ⟨a, is, rfl, .of h2, fin0N si af rfl⟩
  · exact af.elim
theorem cr_allP (xw : XW X W) (hc : X.calm = true) : CallR X (.builtin "all") (rPrim W g0 H0 Wx .all) := by
  intro pins s σ' H xs us Q I rs ⟨env, σ, st, g, ds, si, rr, af⟩
  replace af : Aft W g0 H0 Wx env σ g (R.of (pAll st ds) st) (Nw W H0 env σ Q) := af
  unfold pAll at af
  split at af
  · rename_i x
    obtain ⟨xv, ex, r⟩ := p1 rr
    subst ex
    cases hi : listOf st x with
    | none => rw [hi] at af; exact af.elim
    | some l =>
      rw [hi] at af
      simp only [Option.bind_some] at af
      cases hn : blsOf l with
      | none => rw [hn] at af; exact af.elim
      | some is =>
        rw [hn] at af
        obtain ⟨a, vs, h1, h2, h3⟩ := si.list xw.ok r hi
        subst h1
        rw [bls_rv hn h3] at h2
        exact L2.cr_all hc pins s σ' H _ us Q I rs ⟨a, is, rfl, .of h2, fin0N si af rfl⟩
  · exact af.elim
theorem cr_anyP (xw : XW X W) (hc : X.calm = true) : CallR X (.builtin "any") (rPrim W g0 H0 Wx .any) := by
  intro pins s σ' H xs us Q I rs ⟨env, σ, st, g, ds, si, rr, af⟩
  replace af : Aft W g0 H0 Wx env σ g (R.of (pAny st ds) st) (Nw W H0 env σ Q) := af
  unfold pAny at af
  split at af
  · rename_i x
    obtain ⟨xv, ex, r⟩ := p1 rr
    subst ex
    cases hi : listOf st x with
    | none => rw [hi] at af; exact af.elim
    | some l =>
      rw [hi] at af
      simp only [Option.bind_some] at af
      cases hn : blsOf l with
      | none => rw [hn] at af; exact af.elim
      | some is =>
        rw [hn] at af
        obtain ⟨a, vs, h1, h2, h3⟩ := si.list xw.ok r hi
        subst h1
        rw [bls_rv hn h3] at h2
        exact L2.cr_any hc pins s σ' H _ us Q I rs ⟨a, is, rfl, .of h2, fin0N si af rfl⟩
  · exact af.elim
theorem maxOf_eq : ∀ (r : List Int) (i : Int), PySem.W.maxOf i r = maxI i r
  | [], i => rfl
  | x :: r, i => by
    show PySem.W.maxOf (if (decide (i < x)) = true then x else i) r = maxI (if i < x then x else i) r
    rw [maxOf_eq]
    simp
theorem ints_hold {h : Heap} : ∀ {is : List Int} {us : List Value}, Vals (is.map V.int) us → PySem.W.HoldAll h us is
  | [], _, h => by cases h; exact PySem.W.HoldAll.nil
  | i :: r, _, h => by
    cases h with
    | cons q t =>
    obtain ⟨tk, e⟩ := q
    subst e
    exact PySem.W.HoldAll.cons (PySem.W.holds_int _ _) (ints_hold t)
theorem cr_maxP (xw : XW X W) (hc : X.calm = true) : CallR X (.builtin "max") (rPrim W g0 H0 Wx .max) := by
  intro pins s σ' H xs us Q I rs ⟨env, σ, st, g, ds, si, rr, af⟩
  replace af : Aft W g0 H0 Wx env σ g (R.of (pMax st ds) st) (Nw W H0 env σ Q) := af
  unfold pMax at af
  split at af
  · rename_i x
    obtain ⟨xv, ex, r⟩ := p1 rr
    subst ex
    cases hi : itemsOf st x with
    | none => rw [hi] at af; exact af.elim
    | some l =>
      rw [hi] at af
      simp only [Option.bind_some] at af
      cases hn : intsOf l with
      | none => rw [hn] at af; exact af.elim
      | some is =>
        rw [hn] at af
        simp only [Option.bind_some] at af
        obtain ⟨a, vs, h1, h2, h3⟩ := si.items xw.ok r hi
        subst h1
        rw [ints_rv hn h3] at h2
        obtain ⟨u, eu, rx⟩ := vals1 rs
        subst eu
        cases rx
        cases is with
        | nil => exact af.elim
        | cons i r =>
          have q : Q (.int (maxI i r)) H := fin0N si af rfl
          have hr := xw.room
          have fin : ∀ (j : Nat) v h' tk, PySem.W.Holds h' v (PySem.W.maxOf i r) → (∀ b o, s.heap.get? b = some o → h'.get? b = some o) → EP X pins σ' Q v { s with heap := h', toks := tk } := fun j v h' tk hv k => by
            refine ⟨.int (maxI i r), H, I.kept k, ?_, q⟩
            rw [maxOf_eq] at hv
            obtain ⟨as, rd⟩ := hv
            cases rd with
            | int t => exact ⟨_, rfl⟩
          rcases sqLT xw h2 with h2 | h2
          · obtain ⟨its, r', pl, hz⟩ := I.list h2
            exact PySem.W.max_list_datum (I.ok.hd hc) pl.isList (ints_hold r') (by show X.A.units + 1 + 0 < cLine; omega) fun j v h' tk _ hv k => fin j v h' tk hv k
          · obtain ⟨its, r', pl, hz⟩ := I.tuple h2
            exact PySem.W.max_tuple_datum (I.ok.hd hc) pl (ints_hold r') (by show X.A.units + 1 + 0 < cLine; omega) fun j v h' tk _ hv k => fin j v h' tk hv k
  · exact af.elim
theorem cr_min2 (xw : XW X W) (hc : X.calm = true) : CallR X (.builtin "min") (rPrim W g0 H0 Wx .min2) := by
  intro pins s σ' H xs us Q I rs ⟨env, σ, st, g, ds, si, rr, af⟩
  replace af : Aft W g0 H0 Wx env σ g (R.of (pMin2 ds) st) (Nw W H0 env σ Q) := af
  unfold pMin2 at af
  split at af
  · obtain ⟨x, y, ex, r1, r2⟩ := p2 rr
    subst ex
    rw [si.intT r1, si.intT r2] at rs
    exact call_min2 hc pins s σ' H _ us Q I rs ⟨_, _, rfl, fin0N si af rfl⟩
  · exact af.elim
theorem cr_abs (xw : XW X W) : CallR X (.builtin "abs") (rPrim W g0 H0 Wx .abs) := by
  intro pins s σ' H xs us Q I rs ⟨env, σ, st, g, ds, si, rr, af⟩
  replace af : Aft W g0 H0 Wx env σ g (R.of (pAbs ds) st) (Nw W H0 env σ Q) := af
  unfold pAbs at af
  split at af
  · obtain ⟨x, ex, r1⟩ := p1 rr
    subst ex
    rw [si.intT r1] at rs
    exact call_abs pins s σ' H _ us Q I rs ⟨_, rfl, fin0N si af rfl⟩
  · exact af.elim
theorem digit_int {x : List Nat} {i : Int} (h : digit? x = some i) : PySem.intText? (toS x) = some i ∧ x.length = 1 := by
  unfold digit? at h
  split at h
  · rename_i c
    split at h <;> cases h
    rename_i hc
    refine ⟨?_, rfl⟩
    have : c = 48 ∨ c = 49 ∨ c = 50 ∨ c = 51 ∨ c = 52 ∨ c = 53 ∨ c = 54 ∨ c = 55 ∨ c = 56 ∨ c = 57 := by omega
    rcases this with e | e | e | e | e | e | e | e | e | e <;> subst e <;> decide +kernel
  · cases h
theorem cr_int (xw : XW X W) : CallR X (.type "int") (rPrim W g0 H0 Wx .int) := by
  intro pins s σ' H xs us Q I rs ⟨env, σ, st, g, ds, si, rr, af⟩
  replace af : Aft W g0 H0 Wx env σ g (R.of (pInt ds) st) (Nw W H0 env σ Q) := af
  unfold pInt at af
  split at af
  · obtain ⟨x, ex, r1⟩ := p1 rr
    subst ex
    rw [si.intT r1] at rs
    exact call_int1 pins s σ' H _ us Q I rs (.inl ⟨_, rfl, fin0N si af rfl⟩)
  · obtain ⟨x, ex, r1⟩ := p1 rr
    subst ex
    rw [(si.flat r1 (fun _ e => (by cases e)) fun _ e => (by cases e)).bl_inv] at rs
    exact call_int1 pins s σ' H _ us Q I rs (.inr ⟨_, rfl, fin0N si af rfl⟩)
  · rename_i w
    cases hd : digit? w with
    | none => rw [hd] at af; exact af.elim
    | some i =>
      rw [hd] at af
      obtain ⟨x, ex, r1⟩ := p1 rr
      subst ex
      obtain ⟨e1, o1⟩ := si.strT r1
      rw [e1] at rs
      obtain ⟨h1, h2⟩ := digit_int hd
      exact call_int_str pins s σ' H _ us Q I rs ⟨toS w, i, rfl, h1, by rw [toS_len, h2]; decide, fin0N si af rfl⟩
  · exact af.elim
theorem natStr_ok (n : Nat) : okS (natStr n) := fun c hc => by
  have h := TL.numL_digits n c hc
  omega
theorem str_toS {x : Str} {l : List Nat} (h : x.cps.toList = l) : x = toS l := by
  subst h
  simp [toS]
theorem log2_small {n : Nat} (h : n < 10 ^ 100) : n.log2 < 1920 := by
  by_cases h0 : n = 0
  · subst h0; decide
  · rw [Nat.log2_lt h0]
    exact Nat.lt_trans h (by decide +kernel)
theorem cr_str (xw : XW X W) : CallR X (.type "str") (rPrim W g0 H0 Wx .str) := by
  intro pins s σ' H xs us Q I rs ⟨env, σ, st, g, ds, si, rr, af⟩
  replace af : Aft W g0 H0 Wx env σ g (R.of (pStr ds) st) (Nw W H0 env σ Q) := af
  unfold pStr at af
  split at af
  · split at af
    · rename_i hz
      obtain ⟨x, ex, r1⟩ := p1 rr
      subst ex
      rw [si.intT r1] at rs
      rename_i i
      obtain ⟨n, en⟩ : ∃ n : Nat, i = n := ⟨i.toNat, by omega⟩
      subst en
      refine call_str_int pins s σ' H _ us Q I rs ⟨_, rfl, log2_small hz.2, ?_⟩
      rw [show Str.ofString (toString ((n : Nat) : Int)) = toS (natStr n) from str_toS (TL.tl_num n)]
      exact fin0N si af ⟨rfl, natStr_ok _⟩
    · exact af.elim
  · exact af.elim
end
end CF
/-! CFPrim2 -/
/-! sorted, dict. -/
namespace CF
open PySem PySem.Spec L2
section
variable {X : Cx} {W : Wld} {g0 : Gh} {H0 : Hp} {Wx : WX} {env : Env} {σ σ' : St} {st : Sto} {g : Gh} {H : Hp} {pins : List (Addr × Obj)} {s : Shared} {x y : V} {v u : Value} {d1 d2 d : D} {Q : VK} {xs : List V} {ds : List D}
/-- v stands for d -/
def VD (g : Gh) (v : Value) (d : D) : Prop := ∃ x, RelV x v ∧ RV g x d
theorem each_of : ∀ {vs : List V} {us : List Value} {l : List D}, Vals vs us → RVs g vs l → PySem.W.EachIs (VD g) us l
  | _, _, _, .nil, .nil => .nil
  | _, _, _, .cons r t, .cons q z => .cons ⟨_, r, q⟩ (each_of t z)
theorem of_each : ∀ {us : List Value} {l : List D}, PySem.W.EachIs (VD g) us l → ∃ vs, Vals vs us ∧ RVs g vs l
  | _, _, .nil => ⟨[], .nil, .nil⟩
  | _, _, .cons ⟨x, r, q⟩ t => let ⟨vs, h1, h2⟩ := of_each t; ⟨x :: vs, .cons r h1, .cons q h2⟩
theorem each_reads (xw : XW X W) (si : SI W g0 H0 env st g σ H) (I : Inv X pins σ' H s) : ∀ {vs : List V} {us : List Value} {l : List D}, Vals vs us → RVs g vs l → l.all (fun a => layN LV a) = true → PySem.W.EachIs (fun v b => ∃ as, Reads s.heap v (toPy b) as) us l
  | _, _, _, .nil, .nil, _ => .nil
  | _, _, _, .cons r t, .cons q z, h => by
    simp only [List.all_cons, Bool.and_eq_true] at h
    obtain ⟨dp, _⟩ := dp_of xw.K xw.ok si LV _ _ h.1 q
    exact .cons (Dp.reads I _ _ _ dp r) (each_reads xw si I t z h.2)
theorem insBy_len {α : Type} (lt : α → α → Bool) (x : α) : ∀ l : List α, (insBy lt x l).length = l.length + 1
  | [] => rfl
  | y :: r => by
    unfold insBy
    split
    · rfl
    · simp [insBy_len lt x r]
theorem sortBy_len {α : Type} (lt : α → α → Bool) (l : List α) : (sortBy lt l).length = l.length := by
  have go : ∀ (l acc : List α), (l.foldl (fun acc x => insBy lt x acc) acc).length = acc.length + l.length := by
    intro l
    induction l with
    | nil => intro acc; simp
    | cons x r ih => intro acc; rw [List.foldl_cons, ih, insBy_len, List.length_cons]; omega
  have h := go l []
  rw [List.length_nil, Nat.zero_add] at h
  exact h
/-- where the keys of a dict come from -/
theorem dct_src (xw : XW X W) {l : List (D × D)} {a : Addr} {uo : HO} (I : Inv X pins σ' H s) (rd : Rd H a uo) (dd : DctD W g a uo l) : ∃ (n : Nat) (P : Nat → Value → Prop) (OK : Heap → Prop), PySem.W.KdlSrc X.prog X.w "dict" a a n P OK ∧ OK s.heap ∧ n ≤ sizeLine ∧
    ∀ acc : Array Value, PySem.ItemsOf P acc n → ∃ vs, Vals vs acc.toList ∧ RVs g vs (l.map (·.1)) := by
  rcases dd with ⟨kvs, e, p, n⟩ | ⟨ks, e, pr, n, hsy, hz, hx⟩
  · subst e
    obtain ⟨z, lo, vs, rel, dd⟩ := dk_rd I.hok rd
    obtain ⟨ep, hat⟩ := dd.dictAt
    have ek : (vs.map fun p => kV p.1) = kvs.map fun kv => kV kv.1 := by
      have e := congrArg (List.map kV) rel.keys
      simp only [List.map_map] at e
      exact e.symm
    refine ⟨_, _, _, PySem.W.kdl_dict (knd := mixKind X.prog X.w) (kvs := vs) (ep := ep) lo, hat, by rw [← rel.length]; exact z, fun acc it => ⟨kvs.map fun kv => kV kv.1, ?_, pk_vals p⟩⟩
    rw [← ek]
    exact keys_at (by rw [Array.length_toList]; exact it.1) fun j v h => it.2 j v (by rw [← Array.getElem?_toList]; exact h)
  · subst e
    obtain ⟨o, es, ep, ho, hx, hdt, he⟩ := rd_dto I rd
    have l1 : es.size = ks.length := size_of_entries he
    refine ⟨_, _, _, kdl_raw hsy hx hdt, ho, by omega, fun acc it => ⟨ks.map fun x => V.ref x.2.1, ?_, pt_vals pr⟩⟩
    have ea : acc.toList = ks.map fun x => Value.ref x.2.1 := by
      refine List.ext_getElem? fun j => ?_
      rw [List.getElem?_map]
      have hsz : acc.toList.length = ks.length := by rw [Array.length_toList, it.1]; exact l1
      cases hb : ks[j]? with
      | none =>
        have h1 := List.getElem?_eq_none_iff.mp hb
        rw [List.getElem?_eq_none (by omega)]
        rfl
      | some b =>
        have hlt : j < acc.toList.length := by rw [hsz]; exact (List.getElem?_eq_some_iff.mp hb).1
        have hj : acc.toList[j]? = some acc.toList[j] := List.getElem?_eq_getElem hlt
        obtain ⟨en, hen, hv⟩ := it.2 j _ (by rw [← Array.getElem?_toList]; exact hj)
        have qe := entry_at he j
        rw [hen, hb] at qe
        cases Option.some.inj qe
        rw [hj, hv]
        rfl
    rw [ea]
    exact vals_keys ks
theorem each_far {h h' : Heap} {a : Addr} (k : ∀ b o, h.get? b = some o → h'.get? b = some o) (ha : h.get? a = none) : ∀ {us : List Value} {l : List D}, PySem.W.EachIs (fun v b => ∃ as, Reads h v (toPy b) as) us l → PySem.W.EachIs (fun v b => ∃ as, Reads h' v (toPy b) as ∧ a ∉ as) us l
  | _, _, .nil => .nil
  | _, _, .cons ⟨as, r⟩ t => .cons ⟨as, PySem.W.reads_keeps k r, fun m => by
      obtain ⟨o, ho⟩ := PyProof.On.reads_mem_get r a m
      rw [ha] at ho
      cases ho⟩ (each_far k ha t)
/-- sorted(d) of a dict: its keys -/
theorem sorted_keys (xw : XW X W) (hc : X.calm = true) {l : List (D × D)} {a : Addr} {uo : HO} {E : Value → Shared → Prop} {Q : Value → Shared → Prop} (si : SI W g0 H0 env st g σ H) (I : Inv X pins σ' H s) (rd : Rd H a uo) (dd : DctD W g a uo l) (so : sortOk (l.map (·.1)) = true)
    (q : ∀ p vs s', Inv X pins σ' (upd H p (.lst vs)) s' → H p = none → RVs g vs (sortBy ltD (l.map (·.1))) → Q (.ref p) s') : wpAny (model X.prog X.w) X.A (call (.builtin "sorted") [.ref a]) Q E s := by
  obtain ⟨n, P, OK, K, ok, hn, it⟩ := dct_src xw I rd dd
  have hh := I.ok.hd hc
  have hr := xw.room
  have hlay : (l.map (·.1)).all (fun a => layN LV a) = true := by
    unfold sortOk at so
    simp only [Bool.and_eq_true] at so
    exact so.1.2
  refine Calls.call_function_entry PyProof.Rows.kind_sorted PyProof.Rows.plain_sorted PyProof.Rows.entry_sorted (PyProof.Rows.args_sorted1 _) ?_
  unfold Builtin.«sorted»
  refine wpAny_bind (m := checkCount "sorted" 1 1 _) (wpAny_pure (wpAny_bind (PySem.W.kdu_collect (A := X.A.in1) K hh ok hn fun h' tk acc keep its => ?_)))
  obtain ⟨vs, rv, rd2⟩ := it acc its
  have J : Inv X pins σ' H { s with heap := h', toks := tk } := I.kept keep
  have each := each_of rv rd2
  have reads := each_reads xw si J rv rd2 hlay
  have size : acc.toList.length = (l.map (·.1)).length := each.length
  have most : acc.toList.length ≤ sizeLine := by rw [Array.length_toList, its.1]; exact hn
  refine wpAny_bind (wpAny_newList ?_ most)
  have at_ : (h'.push (PyProof.Rows.seqObj "list" acc.toList.toArray 0)).get? h'.objs.size = some (PyProof.Rows.seqObj "list" acc.toList.toArray 0) := Heap.get?_push_size _ rfl
  have none_ : h'.get? h'.objs.size = none := by
    cases e : h'.get? h'.objs.size with
    | none => rfl
    | some o => exact absurd (Heap.lt_size e) (Nat.lt_irrefl _)
  refine wpAny_bind (wpAny_holding (PySem.W.list_sort_data (s := { s with heap := h'.push (PyProof.Rows.seqObj "list" acc.toList.toArray 0), toks := tk }) (R := VD g) (enc := toPy) at_ each (each_far (fun b o e => Heap.get?_push_of_some _ e) none_ reads) (allAlike_of so) (sortable_of so) (by rw [← size]; exact most) (fun b hb => ?_) fun out eqn eo => ?_))
  · have z := dep_le LV b (List.all_eq_true.mp hlay b hb)
    have lv : LV = 60 := rfl
    show X.A.in1.units + 1 + _ < _
    have up : X.A.in1.units ≤ X.A.units + 20 := by
      first | exact Nat.le_add_right _ _ | (show X.A.units + _ ≤ _; omega)
    omega
  · rw [sort_data so] at eo
    obtain ⟨c, hc⟩ := PyProof.Rows.sortedHeap_at (vs := acc.toList) (out := out.toArray) at_
    obtain ⟨vs2, rv2, rd3⟩ := of_each eo
    have room2 : vs2.length ≤ sizeLine := by rw [pairedLen rd3, sortBy_len, ← size]; exact most
    have far : ∀ b o, h'.get? b = some o → (PyProof.Rows.sortedHeap (h'.push (PyProof.Rows.seqObj "list" acc.toList.toArray 0)) h'.objs.size acc.toList out.toArray).get? b = some o := fun b o e => by
      have lt := Heap.lt_size e
      have f := PyProof.Rows.sortedHeap_old (h := h'.push (PyProof.Rows.seqObj "list" acc.toList.toArray 0)) (a := h'.objs.size) (vs := acc.toList) (out := out.toArray) (b := b) (Nat.ne_of_lt lt) (by rw [Heap.size_push]; exact Nat.lt_succ_of_lt lt)
      exact f.trans (Heap.get?_push_of_some _ e)
    exact wpAny_pure ⟨_, rfl, q h'.objs.size vs2 _ (J.laid (t' := tk) far (Nat.le_refl _) ⟨room2, out, c, rv2, hc⟩) (J.hok.fresh (Nat.le_refl _)) rd3⟩
theorem cr_sortedD (xw : XW X W) (hc : X.calm = true) : CallR X (.builtin "sorted") (rPrim W g0 H0 Wx .sorted) := by
  intro pins s σ' H xs us Q I rs ⟨env, σ, st, g, ds, si, rr, af⟩
  replace af : Aft W g0 H0 Wx env σ g (R.of (pSorted st ds) st) (Nw W H0 env σ Q) := af
  unfold pSorted at af
  split at af
  · rename_i l
    obtain ⟨xv, ex, r⟩ := p1 rr
    subst ex
    split at af
    · rename_i so
      obtain ⟨u, eu, rx⟩ := vals1 rs
      subst eu
      obtain ⟨a, uo, ea, rd, dd⟩ := si.dctT xw.ok r
      subst ea
      cases rx
      exact sorted_keys xw hc si I rd dd so fun p vs s' J hp hv => ⟨.ref p, _, J, rfl, finLN si af hv p hp⟩
    · exact af.elim
  · rename_i x _
    obtain ⟨xv, ex, r⟩ := p1 rr
    subst ex
    cases hi : listOf st x with
    | none => rw [hi] at af; exact af.elim
    | some l =>
      rw [hi] at af
      simp only [Option.bind_some] at af
      split at af
      · rename_i hok
        obtain ⟨a, vs, h1, h2, h3⟩ := si.list xw.ok r hi
        subst h1
        obtain ⟨u, eu, rx⟩ := vals1 rs
        subst eu
        cases rx
        obtain ⟨its, r', pl, hz⟩ := I.list (a := a) (xs := vs) (.of h2)
        have hlay : l.all (fun a => layN LV a) = true := by
          unfold sortOk at hok
          simp only [Bool.and_eq_true] at hok
          exact hok.1.2
        have hr := xw.room
        have el := pairedLen h3
        refine PySem.W.sorted_data (R := VD g) (enc := toPy) pl.isList (each_of r' h3) (each_reads xw si I r' h3 hlay) (allAlike_of hok) (sortable_of hok) (by omega) (fun b hb => ?_) fun out ho eo => ?_
        · have := dep_le LV b (List.all_eq_true.mp hlay b hb)
          have : LV = 60 := rfl
          omega
        · rw [sort_data hok] at eo
          obtain ⟨vs', hv, hr'⟩ := of_each eo
          obtain ⟨ep, he'⟩ := PyProof.Rows.sortedAll_at s.heap its out.toArray
          have hlen : vs'.length ≤ sizeLine := by rw [pairedLen hr', sortBy_len]; omega
          refine ⟨.ref _, upd H (s.heap.objs.size + 1) (.lst vs'), I.laid (t' := s.toks) (fun _ _ => PyProof.Rows.sortedAll_old) (Nat.le_succ _) ⟨hlen, out, ep, hv, he'⟩, rfl, finLN si af hr' _ (I.hok.fresh (Nat.le_succ _))⟩
      · split at af
        · rename_i h1l
          obtain ⟨a, vs, h1, h2, h3⟩ := si.list xw.ok r hi
          subst h1
          obtain ⟨u, eu, rx⟩ := vals1 rs
          subst eu
          cases rx
          obtain ⟨its, r', pl, hz⟩ := I.list (a := a) (xs := vs) (.of h2)
          have e0 := each_of r' h3
          have l1 : l.length = 1 := by
            cases l with
            | nil => cases h1l
            | cons d r => cases r with
              | nil => rfl
              | cons _ _ => cases h1l
          have li : its.length = 1 := by rw [e0.length]; exact l1
          have lz : its.length ≤ sizeLine := by rw [li]; decide
          refine PySem.W.sorted_of_sort pl.isList lz (PyProof.Rows.args_sorted1 _) (fun _ => PyProof.Rows.args_list_sort _) fun E' => ?_
          refine Srt.list_sort_any (s := { s with heap := PySem.W.copyHeap s.heap its }) (PySem.W.copyHeap_at s.heap its) lz (fun h => absurd h (by rw [li]; decide)) fun out ho => ?_
          have eo : out = its := by
            cases its with
            | nil => cases li
            | cons x t => cases t with
              | nil => exact List.perm_singleton.mp ho
              | cons _ _ => cases li
          subst eo
          obtain ⟨ep, he'⟩ := PyProof.Rows.sortedAll_at s.heap out out.toArray
          obtain ⟨vs', hv, hr'⟩ := of_each e0
          have hlen : vs'.length ≤ sizeLine := by rw [pairedLen hr', l1]; decide
          exact ⟨rfl, .ref _, upd H (s.heap.objs.size + 1) (.lst vs'), I.laid (t' := s.toks) (fun _ _ => PyProof.Rows.sortedAll_old) (Nat.le_succ _) ⟨hlen, out, ep, hv, he'⟩, rfl, finLN si af hr' _ (I.hok.fresh (Nat.le_succ _))⟩
        · exact af.elim
  · exact af.elim
/-! ### dict(pairs) -/
theorem putD_mem {k v : D} {p : D × D} : ∀ {l : List (D × D)}, p ∈ putD k v l → p.1 = k ∨ ∃ q ∈ l, q.1 = p.1
  | [], h => by simp [putD] at h; exact .inl (by rw [h])
  | (a, w) :: r, h => by
    unfold putD at h
    split at h
    · rcases List.mem_cons.mp h with e | m
      · exact .inr ⟨(a, w), List.mem_cons_self, by rw [e]⟩
      · exact .inr ⟨p, List.mem_cons_of_mem _ m, rfl⟩
    · rcases List.mem_cons.mp h with e | m
      · exact .inr ⟨(a, w), List.mem_cons_self, by rw [e]⟩
      · exact (putD_mem m).imp id fun ⟨q, h1, h2⟩ => ⟨q, List.mem_cons_of_mem _ h1, h2⟩
/-- pairs as they stand -/
abbrev PP (W : Wld) (H : Hp) (g : Gh) : List V → List (D × D) → Prop := Paired fun x p => ∃ a k v, x = .ref a ∧ SqT W.K H a [k, v] ∧ RV g k p.1 ∧ RV g v p.2
theorem pairs_rv (ok : W.Ok0) (si : SI W g0 H0 env st g σ H) : ∀ {l : List D} {ps : List (D × D)} {vs : List V}, pairsOf l = some ps → RVs g vs l → PP W H g vs ps
  | [], _, _, h, .nil => by cases h; exact .nil
  | d :: r, ps, _, h, .cons q t => by
    unfold pairsOf at h
    split at h
    · rename_i heq; cases heq
    · rename_i k v r' heq
      cases heq
      cases hr : pairsOf r with
      | none => rw [hr] at h; cases h
      | some qs =>
        rw [hr] at h
        cases h
        obtain ⟨a, vs, e, sq, p⟩ := si.tup ok q
        cases p with
        | cons r1 p =>
          cases p with
          | cons r2 p =>
            cases p
            exact .cons ⟨a, _, _, e, sq, r1, r2⟩ (pairs_rv ok si hr t)
    · cases h
theorem keysOk_cases {ps : List (D × D)} (h : keysOk ps = true) : (ps.all fun p => isStr p.1) = true ∨ (ps.all fun p => isTup p.1 && keyN 5 p.1) = true := by
  cases ps with
  | nil => exact .inl rfl
  | cons p r =>
    obtain ⟨k, v⟩ := p
    simp only [keysOk] at h
    split at h
    · rename_i hk
      exact .inl (by rw [List.all_cons, Bool.and_eq_true]; exact ⟨hk, h⟩)
    · simp only [Bool.and_eq_true] at h
      exact .inr (by rw [List.all_cons, Bool.and_eq_true, Bool.and_eq_true]; exact ⟨h.1, h.2⟩)
theorem pk_merge : ∀ {more : List (Key × V)} {ms : List (D × D)} {kvs : List (Key × V)} {l : List (D × D)}, PK g more ms → PK g kvs l → (kvs.map (·.1)).Nodup → PK g (mergeK kvs more) (mergeD l ms) ∧ ((mergeK kvs more).map (·.1)).Nodup
  | _, _, _, _, .nil, p, n => ⟨p, n⟩
  | (a, v) :: m, (k, d) :: ms, kvs, l, .cons ⟨⟨w, e1, e2, o⟩, r⟩ t, p, n => by
    have e1 : k = .str w := e1
    have e2 : a = Sum.inr (toS w) := e2
    subst e1 e2
    exact pk_merge (more := m) (ms := ms) t (pk_put o r p n) (putK_nodup n)
theorem mergeD_str : ∀ {ms l : List (D × D)}, (l.all fun p => isStr p.1) = true → (ms.all fun p => isStr p.1) = true → ((mergeD l ms).all fun p => isStr p.1) = true
  | [], l, h, _ => h
  | (k, v) :: r, l, h, hm => by
    simp only [List.all_cons, Bool.and_eq_true] at hm
    refine mergeD_str (l := putD k v l) ?_ hm.2
    rw [List.all_eq_true]
    intro p hp
    rcases putD_mem hp with e | ⟨q, hq, e⟩
    · rw [e]; exact hm.1
    · rw [← e]; exact List.all_eq_true.mp h q hq
theorem pp_keys {ps : List (D × D)} {vs : List V} (h : PP W H g vs ps) (hs : (ps.all fun p => isStr p.1) = true) : ∃ (as : List Addr) (kvs : List (Key × V)), vs = as.map V.ref ∧ Paired (fun p kv => SqT W.K H p [kV kv.1, kv.2]) as kvs ∧ PK g kvs ps := by
  induction h with
  | nil => exact ⟨[], [], rfl, .nil, .nil⟩
  | @cons x p vs ps hd t ih =>
    simp only [List.all_cons, Bool.and_eq_true] at hs
    obtain ⟨a, k, v, e, sq, r1, r2⟩ := hd
    obtain ⟨as, kvs, e2, h1, h2⟩ := ih hs.2
    obtain ⟨pk, pv⟩ := p
    have hk := hs.1
    cases pk <;> simp [isStr] at hk
    rename_i w
    obtain ⟨ek, ok⟩ := r1.str_inv
    subst ek e e2
    exact ⟨a :: as, (Sum.inr (toS w), v) :: kvs, rfl, .cons sq h1, .cons ⟨⟨w, rfl, rfl, ok⟩, r2⟩ h2⟩
theorem finD {l : List (D × D)} {u : HO} {p : Addr} (si : SI W g0 H0 env st g σ H) (af : Aft W g0 H0 Wx env σ g (.ok (.dct l) st) (Nw W H0 env σ Q)) (hp : H p = none) (dd : DctD W g p u l) : Q (.ref p) (upd H p u) := finN si af hp ⟨u, upd_same, dd⟩
/-- tuple keys -/
theorem pt_merge (P : Program) (w : World) : ∀ {more : List (NestedKey × Addr × Value)} {ms : List (D × D)} {xs : List (NestedKey × Addr × Value)} {l : List (D × D)}, PT' g more ms → PT' g xs l → (xs.map (·.1)).Nodup →
    PT' g (storedAllH xs more) (mergeD l ms) ∧ ((storedAllH xs more).map (·.1)).Nodup
  | _, _, _, _, .nil, p, n => ⟨p, n⟩
  | (a, b, v) :: m, (k, d) :: ms, xs, l, .cons ⟨h1, h2, h3, h4, y, h5, h6⟩ t, p, n => by
    have h3 : a = nkey k := h3
    subst h3
    exact pt_merge P w (more := m) (ms := ms) t (dt_put h1 h2 h4 h5 h6 p n) (storedH_nodup n)
theorem mergeD_len : ∀ (ms l : List (D × D)), (mergeD l ms).length ≤ l.length + ms.length
  | [], l => by simp [mergeD]
  | (k, v) :: r, l => by
    have h1 := mergeD_len r (putD k v l)
    have h2 := putD_len k v l
    simp only [mergeD, List.length_cons]
    omega
theorem putD_ne (k v : D) (l : List (D × D)) : putD k v l ≠ [] := by
  cases l with
  | nil => simp [putD]
  | cons c r =>
    unfold putD
    split <;> simp
theorem mergeD_ne : ∀ (ms l : List (D × D)), l ≠ [] → mergeD l ms ≠ []
  | [], _, h => h
  | (k, v) :: r, l, _ => mergeD_ne r _ (putD_ne k v l)
/-- a pair of the heap -/
theorem ppH (xw : XW X W) (I : Inv X pins σ' H s) (si : SI W g0 H0 env st g σ H) : ∀ {ps : List (D × D)} {vs : List V}, PP W H g vs ps → (ps.all fun p => isTup p.1 && keyN 5 p.1) = true →
    ∃ (as : List Addr) (xs : List (NestedKey × Addr × Value)), vs = as.map V.ref ∧ PT' g xs ps ∧ Paired (fun a (x : NestedKey × Addr × Value) => PairAt s.heap a (.ref x.2.1) x.2.2) as xs
  | _, _, .nil, _ => ⟨[], [], rfl, .nil, .nil⟩
  | (k, d) :: ps, _ :: vs, .cons ⟨a, kv, v, e, sq, r1, r2⟩ t, h => by
    simp only [List.all_cons, Bool.and_eq_true] at h
    obtain ⟨as, xs, e2, h1, h2⟩ := ppH xw I si t (by simpa using h.2)
    obtain ⟨b, eb⟩ : ∃ b, kv = .ref b := by
      have hk := h.1.1
      cases k <;> simp [isTup] at hk
      obtain ⟨b, e, _⟩ := r1.tup_inv
      exact ⟨b, e⟩
    subst e e2 eb
    obtain ⟨its, rv, it, _⟩ := I.tuple (a := a) (xs := [.ref b, v]) (by rw [xw.K]; exact sq)
    cases rv with
    | cons q1 rv =>
      cases rv with
      | cons q2 rv =>
        cases rv
        cases (show _ = Value.ref b from q1)
        exact ⟨a :: as, (nkey k, b, _) :: xs, rfl, .cons ⟨h.1.1, h.1.2, rfl, r1, v, q2, r2⟩ h1, .cons (.inl it) h2⟩
theorem pairedGet {α β : Type} {F : α → β → Prop} : ∀ {a : List α} {b : List β}, Paired F a b → ∀ {i : Nat} {y : β}, b[i]? = some y → ∃ x, a[i]? = some x ∧ F x y
  | _, _, .nil, i, y, h => by simp at h
  | _, _, .cons r t, 0, y, h => by simp at h; subst h; exact ⟨_, rfl, r⟩
  | _, _, .cons r t, i + 1, y, h => by simp at h; simpa using pairedGet t h
theorem pairsOf_len : ∀ {l : List D} {ps : List (D × D)}, pairsOf l = some ps → l.length = ps.length
  | [], _, h => by cases h; rfl
  | d :: r, ps, h => by
    unfold pairsOf at h
    split at h
    · rename_i heq; cases heq
    · rename_i k v r' heq
      cases heq
      cases hr : pairsOf r with
      | none => rw [hr] at h; cases h
      | some qs => rw [hr] at h; cases h; simp [pairsOf_len hr]
    · cases h
theorem cr_dictOf (xw : XW X W) (hc : X.calm = true) : CallR X (.type "dict") (rPrim W g0 H0 Wx .dictOf) := by
  intro pins s σ' H xs us Q I rs ⟨env, σ, st, g, ds, si, rr, af⟩
  replace af : Aft W g0 H0 Wx env σ g (R.of (pDictOf st ds) st) (Nw W H0 env σ Q) := af
  unfold pDictOf at af
  split at af
  · rename_i x
    obtain ⟨xv, ex, r⟩ := p1 rr
    subst ex
    cases hi : listOf st x with
    | none => rw [hi] at af; exact af.elim
    | some l =>
      rw [hi] at af
      simp only [Option.bind_some] at af
      cases hp : pairsOf l with
      | none => rw [hp] at af; exact af.elim
      | some ps =>
        rw [hp] at af
        simp only [Option.bind_some] at af
        split at af
        · rename_i hok
          obtain ⟨a, vs, h1, h2, h3⟩ := si.list xw.ok r hi
          subst h1
          have pp := pairs_rv xw.ok si hp h3
          rcases keysOk_cases hok with hs | hs
          · obtain ⟨as, kvs, e, q1, q2⟩ := pp_keys pp hs
            subst e
            refine call_dictP hc pins s σ' H _ us Q I rs ⟨a, as, kvs, rfl, .inl (.of h2), by rw [xw.K]; exact q1, fun p hp0 => finD si af hp0 ?_⟩
            obtain ⟨m1, m2⟩ := pk_merge (more := kvs) (ms := ps) (kvs := []) (l := []) q2 .nil (by simp)
            exact .inl ⟨_, rfl, m1, m2⟩
          · obtain ⟨as, ks, e, q1, q2⟩ := ppH xw I si pp hs
            subst e
            obtain ⟨u, eu, rx⟩ := vals1 rs
            subst eu
            cases rx
            by_cases h0 : ks = []
            · subst h0
              cases q1
              cases q2
              refine call_dictP hc pins s σ' H [.ref a] [.ref a] Q I (.cons rfl .nil) ⟨a, [], [], rfl, .inl (.of h2), .nil, fun p hp0 => finD si af hp0 (.inl ⟨[], rfl, .nil, by simp⟩)⟩
            · obtain ⟨its, rv, pl, hz⟩ := I.list (a := a) (xs := as.map V.ref) (.of h2)
              have ei := refs_at rv
              subst ei
              rw [List.length_map] at hz
              have l2 := pairedLen q2
              obtain ⟨o, n, ho, hcl, hd, hdat⟩ := pl
              have ok : PlainSeq "list" s.heap a (as.map Value.ref).toArray ∧ PairItems s.heap (as.map Value.ref).toArray (fun j => as.getD j 0) (ks.map fun x => (Value.ref x.2.1, x.2.2)) := by
                refine ⟨⟨o, n, ho, hcl, hd, hdat⟩, by simp [l2], fun j k v hj => ?_⟩
                rw [List.getElem?_map] at hj
                cases hk : ks[j]? with
                | none => rw [hk] at hj; cases hj
                | some y =>
                  rw [hk] at hj
                  obtain ⟨b, hb, pa⟩ := pairedGet q2 hk
                  cases hj
                  have eg : as.getD j 0 = b := by simp [List.getD, hb]
                  show _ = some (Value.ref (as.getD j 0)) ∧ PairAt s.heap (as.getD j 0) _ _
                  rw [eg]
                  exact ⟨by simp [hb], pa⟩
              have hr := xw.room
              refine call_dict_pairsH (knd := nestedKind X.prog X.w) (ps := ks) (PairArg.list a (as.map Value.ref).toArray (fun j => as.getD j 0) (ks.map fun x => (Value.ref x.2.1, x.2.2))) (I.ok.hd hc) (show X.A.units + 1 + 1 + 8 < cLine by omega) ok ⟨by simp, fun i key v hrel => ?_⟩ (fun h' hk x hx => ?_) (by simp; omega) fun h' tk hd' k => ?_
              · have hrel : (ks.map fun x => (Value.ref x.2.1, x.2.2))[i]? = some (key, v) := hrel
                rw [List.getElem?_map] at hrel
                cases hk : ks[i]? with
                | none => rw [hk] at hrel; cases hrel
                | some y => rw [hk] at hrel; cases hrel; exact ⟨y.1, y.2.1, rfl, rfl⟩
              · have h8 : (nestedKind X.prog X.w).is s.heap x.1 x.2.1 := by
                  have : ∀ {xs : List (NestedKey × Addr × Value)} {l : List (D × D)}, PT' g xs l → x ∈ xs → (nestedKind X.prog X.w).is s.heap x.1 x.2.1 := by
                    intro xs l p
                    induction p with
                    | nil => intro m; cases m
                    | cons hd t ih =>
                      intro m
                      rcases List.mem_cons.mp m with e | m
                      · subst e
                        rw [hd.2.2.1]
                        exact key_is xw.K xw.ok si.hs I hd.2.1 hd.2.2.2.1
                      · exact ih m
                  exact this q1 hx
                exact nestedKind_stays.stays (fun b o _ _ e _ => hk b o (Nat.ne_of_lt (Heap.lt_size e)) (by simp) e) h8
              · obtain ⟨m1, m2⟩ := pt_merge X.prog X.w (more := ks) (ms := ps) (xs := []) (l := []) q1 .nil (by simp)
                have hsy : (s.heap.objs.size == sysModules) = false := beq_eq_false_iff_ne.mpr (Nat.ne_of_gt I.big)
                have hlen : (storedAllH [] ks).length ≤ sizeLine := by
                  rw [pairedLen m1]
                  have := mergeD_len ps []
                  have := pairsOf_len hp
                  have := pairedLen q1
                  simp only [List.length_nil] at *
                  omega
                refine ⟨.ref s.heap.objs.size, upd H s.heap.objs.size (DTO X.prog X.w s.heap.objs.size (storedAllH [] ks)), I.laid (t' := tk) (fun b o e => k b o (by simp) e) (Nat.le_refl _) (dto_new hd'), rfl, finD si af (I.hok.fresh (Nat.le_refl _)) (.inr ⟨_, by rw [xw.P, xw.w], m1, m2, hsy, hlen, fun e0 => ?_⟩)⟩
                cases ks with
                | nil => exact h0 rfl
                | cons y r =>
                  rw [e0] at m1
                  cases ps with
                  | nil => cases q1
                  | cons p ps =>
                    have z := mergeD_ne ps (putD p.1 p.2 []) (by simp [putD])
                    have e1 : mergeD [] (p :: ps) = mergeD (putD p.1 p.2 []) ps := rfl
                    rw [e1] at m1
                    revert m1
                    generalize mergeD (putD p.1 p.2 []) ps = w at z
                    intro m1
                    cases m1
                    exact z rfl
        · exact af.elim
  · exact af.elim
end
end CF
/-! CFTxt -/
/-! Sorting lists of texts that are permutations; texts in both languages. -/
namespace CF
open PySem PySem.Spec L2
/-! ### sorted lists that are permutations -/
theorem perm_sorted {α : Type} {le : α → α → Bool} : ∀ {a b : List α}, (∀ x ∈ a, ∀ y ∈ a, le x y = true → le y x = true → x = y) → a.Pairwise (fun x y => le x y = true) → b.Pairwise (fun x y => le x y = true) → a.Perm b → a = b
  | [], b, _, _, _, p => (List.Perm.nil_eq p)
  | x :: a, [], _, _, _, p => absurd p.length_eq (by simp)
  | x :: a, y :: b, anti, ha, hb, p => by
    have hx := List.pairwise_cons.mp ha
    have hy := List.pairwise_cons.mp hb
    have e : x = y := by
      have m1 : x ∈ y :: b := p.mem_iff.mp List.mem_cons_self
      have m2 : y ∈ x :: a := p.mem_iff.mpr List.mem_cons_self
      rcases List.mem_cons.mp m1 with q | q
      · exact q
      · rcases List.mem_cons.mp m2 with r | r
        · exact r.symm
        · exact anti x List.mem_cons_self y m2 (hx.1 y r) (hy.1 x q)
    subst e
    rw [perm_sorted (fun u hu v hv => anti u (List.mem_cons_of_mem _ hu) v (List.mem_cons_of_mem _ hv)) hx.2 hy.2 (List.Perm.cons_inv p)]
theorem sortOk_strs {l : List D} (h : l.all isStr = true) : sortOk l = true := by
  have hs : ∀ d ∈ l, ∃ w, d = .str w := fun d hd => by
    have q := List.all_eq_true.mp h d hd
    cases d <;> first | exact ⟨_, rfl⟩ | cases q
  unfold sortOk
  simp only [Bool.and_eq_true, List.all_eq_true, Bool.or_eq_true]
  refine ⟨⟨fun a ha b hb => ?_, fun a ha => ?_⟩, .inr fun a ha => ?_⟩
  · obtain ⟨_, rfl⟩ := hs a ha
    obtain ⟨_, rfl⟩ := hs b hb
    rfl
  · obtain ⟨_, rfl⟩ := hs a ha
    rfl
  · obtain ⟨_, rfl⟩ := hs a ha
    rfl
theorem sort_perm {a b : List D} (h : a.all isStr = true) (p : a.Perm b) : sortBy ltD a = sortBy ltD b := by
  have hb : b.all isStr = true := List.all_eq_true.mpr fun d hd => List.all_eq_true.mp h d (p.mem_iff.mpr hd)
  have hs : ∀ d ∈ a, ∃ w, d = .str w := fun d hd => by
    have q := List.all_eq_true.mp h d hd
    cases d <;> first | exact ⟨_, rfl⟩ | cases q
  rw [← sort_data (sortOk_strs h), ← sort_data (sortOk_strs hb)]
  have tot := dataLe_total toPy
  have pa := List.mergeSort_perm a (W.dataLe false toPy)
  have pb := List.mergeSort_perm b (W.dataLe false toPy)
  refine perm_sorted (le := W.dataLe false toPy) (fun x hx y hy h1 h2 => ?_) (List.pairwise_mergeSort tot.trans (fun x y => by rw [Bool.or_eq_true]; exact tot.total x y) a) (List.pairwise_mergeSort tot.trans (fun x y => by rw [Bool.or_eq_true]; exact tot.total x y) b) (pa.trans (p.trans pb.symm))
  obtain ⟨u, rfl⟩ := hs x (pa.mem_iff.mp hx)
  obtain ⟨v, rfl⟩ := hs y (pa.mem_iff.mp hy)
  rw [W.dataLe_eq] at h1 h2
  simp only [cond_false, Bool.not_eq_true'] at h1 h2
  rw [lt_of LV LV _ _ rfl rfl rfl] at h1 h2
  have h1 : decide (v < u) = false := h1
  have h2 : decide (u < v) = false := h2
  rw [decide_eq_false_iff_not] at h1 h2
  have e : u = v := List.le_antisymm (List.not_lt.mp h1) (List.not_lt.mp h2)
  rw [e]
/-! ### in both languages -/
def dedupN : List (List Nat) → List (List Nat)
  | [] => []
  | x :: r => x :: (dedupN r).filter fun y => decide (y ≠ x)
theorem dedup_map : ∀ ws : List (List Nat), dedup (ws.map D.str) = (dedupN ws).map D.str
  | [] => rfl
  | x :: r => by
    show D.str x :: (dedup (r.map D.str)).filter (fun y => !eqD y (D.str x)) = D.str x :: ((dedupN r).filter fun y => decide (y ≠ x)).map D.str
    rw [dedup_map r, List.filter_map]
    congr 2
    refine List.filter_congr fun y _ => ?_
    show (!(y == x)) = decide (y ≠ x)
    by_cases h : y = x <;> simp [h]
theorem strs_of {l : List D} (h : l.all isStr = true) : ∃ ws : List (List Nat), l = ws.map D.str := by
  induction l with
  | nil => exact ⟨[], rfl⟩
  | cons d r ih =>
    simp only [List.all_cons, Bool.and_eq_true] at h
    obtain ⟨ws, e⟩ := ih h.2
    cases d with
    | str w => exact ⟨w :: ws, by rw [e]; rfl⟩
    | _ => cases h.1
theorem rvs_strs {g : Gh} : ∀ {ws : List (List Nat)} {vs : List V}, RVs g vs (ws.map D.str) → vs = (ws.map toS).map V.str ∧ ∀ w ∈ ws, okS w
  | [], _, .nil => ⟨rfl, fun _ h => by cases h⟩
  | w :: ws, _, .cons h t => by
    obtain ⟨e, o⟩ := rvs_strs t
    obtain ⟨e1, o1⟩ := h.str_inv
    refine ⟨by rw [e1, e]; rfl, fun u hu => ?_⟩
    rcases List.mem_cons.mp hu with q | q
    · rw [q]; exact o1
    · exact o u q
theorem strs_rvs {g : Gh} : ∀ {ws : List (List Nat)}, (∀ w ∈ ws, okS w) → RVs g ((ws.map toS).map V.str) (ws.map D.str)
  | [], _ => .nil
  | w :: ws, h => .cons ⟨rfl, h w List.mem_cons_self⟩ (strs_rvs fun u hu => h u (List.mem_cons_of_mem _ hu))
end CF
/-! CFExpr -/
/-! Expressions: what the model does is what the small language says. -/
namespace CF
open PySem PySem.Spec L2
section
variable (W : Wld) (g0 : Gh) (H0 : Hp) (Wx : WX)
def tM (m : Env → Sto → R D) : TE := fun σ H Q => ∃ env st g, SI W g0 H0 env st g σ H ∧ Aft W g0 H0 Wx env σ g (m env st) (Val Q)
/-- of what makes something new -/
def tMF (m : Env → Sto → R D) : TE := fun σ H Q => ∃ env st g, SI W g0 H0 env st g σ H ∧ Aft W g0 H0 Wx env σ g (m env st) (Nw W H0 env σ Q)
def tMT (m : Env → Sto → R D) : TE := fun σ H Q => ∃ env st g, SI W g0 H0 env st g σ H ∧ Aft W g0 H0 Wx env σ g (m env st) (fun d _ g' H' => ∀ v, RT W g' H0 env σ v d → Q v H')
def tMB (m : Env → Sto → R D) : TT := fun σ H Q => ∃ env st g, SI W g0 H0 env st g σ H ∧ Aft W g0 H0 Wx env σ g (asB (m env st)) (fun b _ _ H' => Q b H')
def tMA (m : Env → Sto → R (List D)) : TA := fun σ H Q => ∃ env st g, SI W g0 H0 env st g σ H ∧ Aft W g0 H0 Wx env σ g (m env st) (fun ds _ g' H' => ∀ vs, RVs g' vs ds → Q vs H')
def tMAT (m : Env → Sto → R (List D)) : TA := fun σ H Q => ∃ env st g, SI W g0 H0 env st g σ H ∧ Aft W g0 H0 Wx env σ g (m env st) (fun ds _ g' H' => ∀ vs, Paired (RT W g' H0 env σ) vs ds → Q vs H')
def tMO (m : Env → Sto → R (Option D)) : TO := fun σ H Q => ∃ env st g, SI W g0 H0 env st g σ H ∧ Aft W g0 H0 Wx env σ g (m env st) (fun o _ _ H' => ∀ lo, OI lo o → Q lo H')
end
theorem _root_.L2.PE.imp' {X : Cx} {e : Expr} {t t' : TE} (h : PE X e t) (k : ∀ σ H Q, t' σ H Q → t σ H Q) : PE X e t' := ⟨fun pins s σ H Q I q => h.run pins s σ H Q I (k σ H Q q)⟩
theorem _root_.L2.PT.imp' {X : Cx} {e : Expr} {t t' : TT} (h : PT X e t) (k : ∀ σ H Q, t' σ H Q → t σ H Q) : PT X e t' := ⟨fun pins s σ H Q I q => h.run pins s σ H Q I (k σ H Q q)⟩
theorem _root_.L2.PW.imp' {X : Cx} {e : Expr} {t t' : TT} (h : PW X e t) (k : ∀ σ H Q, t' σ H Q → t σ H Q) : PW X e t' := ⟨fun wh pins s σ H Q I q => h.run wh pins s σ H Q I (k σ H Q q)⟩
theorem _root_.L2.PA.imp' {X : Cx} {es : List Expr} {t t' : TA} (h : PA X es t) (k : ∀ σ H Q, t' σ H Q → t σ H Q) : PA X es t' := ⟨fun pos pins s σ H Q I q => h.run pos pins s σ H Q I (k σ H Q q)⟩
section
variable {X : Cx} {W : Wld} {g0 : Gh} {H0 : Hp} {Wx : WX} {T : Tab} {C : CallF} {a b c : E} {ea eb ec : Expr} {pos : Pos}
/-- a value, looked at -/
theorem pe_look {m : Env → Sto → R D} (h : PE X ea (tM W g0 H0 Wx m)) : PE X ea (tMT W g0 H0 Wx m) :=
  h.imp' fun σ H Q ⟨env, st, g, si, af⟩ => ⟨env, st, g, si, af.imp fun d st' g' H' l si' q v r => q v (.inl r)⟩
theorem cf_var {i : Nat} {x : Str} (hN : X.N[i]? = some x) (hv : Vis X.env.scope x) (hd : (x == ("__debug__" : Str)) = false) (hcd : (x == ("__classdict__" : Str)) = false) : PE X (.Name x pos) (tM W g0 H0 Wx (ev T C (.var i))) :=
  (pe_var hN hv hd hcd).imp' fun σ H Q ⟨env, st, g, si, af⟩ => by
    simp only [ev] at af
    cases e : readV env i with
    | none => rw [e] at af; exact af.elim
    | some d =>
      rw [e] at af
      obtain ⟨v, h1, h2⟩ := si.readV e
      exact ⟨v, h1, fin0 si af h2⟩
theorem cf_varT {i : Nat} {x : Str} (hN : X.N[i]? = some x) (hv : Vis X.env.scope x) (hd : (x == ("__debug__" : Str)) = false) (hcd : (x == ("__classdict__" : Str)) = false) : PE X (.Name x pos) (tMT W g0 H0 Wx (evT T C (.var i))) :=
  (pe_var hN hv hd hcd).imp' fun σ H Q ⟨env, st, g, si, af⟩ => by
    simp only [evT] at af
    cases e : readT env i with
    | none => rw [e] at af; exact af.elim
    | some d =>
      rw [e] at af
      obtain ⟨v, h1, h2⟩ := si.readT e
      exact ⟨v, h1, af g H (.refl g) si v h2⟩
theorem cf_const {v : V} {d : D} {e : Expr} (h : PE X e (tC v)) (r : ∀ g : Gh, g.k0 = W.f0 → RV g v d) : PE X e (tM W g0 H0 Wx (ev T C (.cst d))) :=
  h.imp' fun σ H Q ⟨env, st, g, si, af⟩ => by
    simp only [ev] at af
    exact fin0 si af (r g si.hs.f0)
theorem cf_bin (xw : XW X W) (op : Op2) (ha : PE X ea (tMT W g0 H0 Wx (evT T C a))) (hb : PE X eb (tMT W g0 H0 Wx (evT T C b))) : PE X (.BinOp ea (opM op) eb pos) (tM W g0 H0 Wx (ev T C (.bin op a b))) :=
  (pe_op (op_bin (W := W) (g0 := g0) (H0 := H0) (Wx := Wx) xw.K xw.ok op) ha hb).imp' fun σ H Q ⟨env, st, g, si, af⟩ => by
    simp only [ev] at af
    exact ⟨env, st, g, si, af.bind.imp fun d1 st1 g1 H1 l1 si1 af1 x rx => ⟨env, st1, g1, si1, af1.bind.imp fun d2 st2 g2 H2 l2 si2 af2 y ry => ⟨env, σ, st2, g2, d1, d2, si2, rx.mono l2, ry, af2.nw⟩⟩⟩
theorem cf_neg (ha : PE X ea (tM W g0 H0 Wx (ev T C a))) : PE X (.UnaryOp .USub ea pos) (tM W g0 H0 Wx (ev T C (.neg a))) :=
  (pe_un (un_negM (W := W) (g0 := g0) (H0 := H0) (Wx := Wx)) ha).imp' fun σ H Q ⟨env, st, g, si, af⟩ => by
    simp only [ev] at af
    exact ⟨env, st, g, si, af.bind.imp fun d1 st1 g1 H1 l1 si1 af1 x rx => ⟨env, σ, st1, g1, d1, si1, rx, by revert af1; cases d1 <;> exact id⟩⟩
theorem cf_cmp (xw : XW X W) (op : Cm) (hm : behindInMarks (opC op) eb = false) (ha : PE X ea (tMT W g0 H0 Wx (evT T C a))) (hb : PE X eb (tMT W g0 H0 Wx (evT T C b))) : PE X (.Compare ea [opC op] [eb] pos) (tM W g0 H0 Wx (fun env s => (evT T C a env s).bind fun x s => (evT T C b env s).bind fun y s => (R.of (opCmp s op x y) s).bind fun b s => .ok (.bl b) s)) :=
  (pe_cmpR (op_cmp (W := W) (g0 := g0) (H0 := H0) (Wx := Wx) xw op) ha hb hm).imp' fun σ H Q ⟨env, st, g, si, af⟩ =>
    ⟨env, st, g, si, af.bind.imp fun d1 st1 g1 H1 l1 si1 af1 x rx => ⟨env, st1, g1, si1, af1.bind.imp fun d2 st2 g2 H2 l2 si2 af2 y ry => ⟨env, σ, st2, g2, d1, d2, si2, rx.mono l2, ry, af2⟩⟩⟩
theorem chn_imp {m1 m2 m3 : Env → Sto → R D} (o1 o2 : Cm) {σ : St} {H : Hp} {Q : VK} (h : tM W g0 H0 Wx (fun env s => (m1 env s).bind fun x s => (m2 env s).bind fun y s => (R.of (opCmp s o1 x y) s).bind fun k s =>
      if k then (m3 env s).bind fun z s => (R.of (opCmp s o2 y z) s).bind fun k s => .ok (.bl k) s else .ok (.bl false) s) σ H Q) : tChain (rCmp W g0 H0 Wx o1) (rCmp W g0 H0 Wx o2) (tM W g0 H0 Wx m1) (tM W g0 H0 Wx m2) (tM W g0 H0 Wx m3) σ H Q := by
  obtain ⟨env, st, g, si, af⟩ := h
  refine ⟨env, st, g, si, af.bind.imp fun d1 st1 g1 H1 l1 si1 af1 x rx => ⟨env, st1, g1, si1, af1.bind.imp fun d2 st2 g2 H2 l2 si2 af2 y ry => ⟨env, σ, st2, g2, d1, d2, si2, .inl (rx.mono l2), .inl ry, ?_⟩⟩⟩
  cases e : opCmp st2 o1 d1 d2 with
  | none => rw [e] at af2; exact af2.elim
  | some k =>
    rw [e] at af2
    intro g3 H3 l3 si3 v rv
    refine ⟨k, rv.bl_inv, ?_⟩
    have af3 : Aft W g0 H0 Wx env σ g3 (if k = true then (m3 env st2).bind fun z s => (R.of (opCmp s o2 d2 z) s).bind fun k s => .ok (.bl k) s else .ok (.bl false) st2) (Val Q) := Aft.up (r := (if k = true then (m3 env st2).bind fun z s => (R.of (opCmp s o2 d2 z) s).bind fun k s => R.ok (D.bl k) s else R.ok (D.bl false) st2)) (af2) l3
    cases k with
    | true => exact ⟨env, st2, g3, si3, af3.bind.imp fun d3 st4 g4 H4 l4 si4 af4 z rz => ⟨env, σ, st4, g4, d2, d3, si4, .inl ((ry.mono l3).mono l4), .inl rz, af4⟩⟩
    | false => exact fin0 si3 af3 rfl
theorem ev_chn (o1 o2 : Cm) : ev T C (.chn o1 o2 a b c) = fun env s => (ev T C a env s).bind fun x s => (ev T C b env s).bind fun y s => (R.of (opCmp s o1 x y) s).bind fun k s =>
      if k then (ev T C c env s).bind fun z s => (R.of (opCmp s o2 y z) s).bind fun k s => .ok (.bl k) s else .ok (.bl false) s := by
  funext env s; simp only [ev]
theorem cf_chn (xw : XW X W) (o1 o2 : Cm) (hm : lastMarks [opC o1, opC o2] [eb, ec] = false) (ha : PE X ea (tM W g0 H0 Wx (ev T C a))) (hb : PE X eb (tM W g0 H0 Wx (ev T C b))) (hc : PE X ec (tM W g0 H0 Wx (ev T C c))) : PE X (.Compare ea [opC o1, opC o2] [eb, ec] pos) (tM W g0 H0 Wx (ev T C (.chn o1 o2 a b c))) :=
  (pe_chain (op_cmp (W := W) (g0 := g0) (H0 := H0) (Wx := Wx) xw o1) (op_cmp (W := W) (g0 := g0) (H0 := H0) (Wx := Wx) xw o2) ha hb hc hm).imp' fun σ H Q h => chn_imp o1 o2 (by rw [ev_chn] at h; exact h)
/-! ### and, or, not -/
theorem asB_bind (r : R D) (f : Bool → Sto → R D) : (asB r).bind f = r.bind fun d s => match d with | .bl b => f b s | _ => .bad := by
  cases r with
  | ok d s => cases d <;> rfl
  | exc c fs s => rfl
  | bad => rfl
theorem cf_nt (ha : PE X ea (tM W g0 H0 Wx (ev T C a))) : PE X (.UnaryOp .Not ea pos) (tM W g0 H0 Wx (ev T C (.nt a))) :=
  (pe_not ha).imp' fun σ H Q ⟨env, st, g, si, af⟩ => by
    simp only [ev, asB_bind] at af
    refine ⟨env, st, g, si, af.bind.imp fun d1 st1 g1 H1 l1 si1 af1 x rx => ?_⟩
    cases d1 with
    | bl b => exact ⟨b, rx.bl_inv, fin0 si1 af1 rfl⟩
    | _ => exact af1.elim
theorem cf_and {rest : List Expr} (ha : PE X ea (tM W g0 H0 Wx (ev T C a))) (hb : PE X (.BoolOp .And (eb :: rest) pos) (tM W g0 H0 Wx (ev T C b))) : PE X (.BoolOp .And (ea :: eb :: rest) pos) (tM W g0 H0 Wx (ev T C (.and a b))) :=
  (pe_and ha hb).imp' fun σ H Q ⟨env, st, g, si, af⟩ => by
    simp only [ev, asB_bind] at af
    refine ⟨env, st, g, si, af.bind.imp fun d1 st1 g1 H1 l1 si1 af1 x rx => ?_⟩
    cases d1 with
    | bl k =>
      refine ⟨k, rx.bl_inv, ?_⟩
      cases k with
      | true => exact ⟨env, st1, g1, si1, af1⟩
      | false => exact fin0 si1 af1 rfl
    | _ => exact af1.elim
theorem cf_or {rest : List Expr} (ha : PE X ea (tM W g0 H0 Wx (ev T C a))) (hb : PE X (.BoolOp .Or (eb :: rest) pos) (tM W g0 H0 Wx (ev T C b))) : PE X (.BoolOp .Or (ea :: eb :: rest) pos) (tM W g0 H0 Wx (ev T C (.or a b))) :=
  (pe_or ha hb).imp' fun σ H Q ⟨env, st, g, si, af⟩ => by
    simp only [ev, asB_bind] at af
    refine ⟨env, st, g, si, af.bind.imp fun d1 st1 g1 H1 l1 si1 af1 x rx => ?_⟩
    cases d1 with
    | bl k =>
      refine ⟨k, rx.bl_inv, ?_⟩
      cases k with
      | true => exact fin0 si1 af1 rfl
      | false => exact ⟨env, st1, g1, si1, af1⟩
    | _ => exact af1.elim
/-! ### tests -/
theorem Aft.bool {env : Env} {σ : St} {g : Gh} {r : R D} {F : Bool → Sto → Gh → Hp → Prop} (h : Aft W g0 H0 Wx env σ g (asB r) F) : Aft W g0 H0 Wx env σ g r (fun d st' g' H' => ∃ k, d = .bl k ∧ F k st' g' H') := by
  have h' := Aft.bind (r := r) h
  refine h'.imp fun d st' g' H' l si q => ?_
  cases d with
  | bl k => exact ⟨k, rfl, q g' H' (.refl g') si⟩
  | _ => exact q.elim
theorem pt_cf {m : Env → Sto → R D} (h : PE X ea (tM W g0 H0 Wx m)) (he : ∀ whole, isTrue ea X.env whole = (do let v ← whole; standAt ea.pos; holding [v] (truthy v))) : PT X ea (tMB W g0 H0 Wx m) :=
  (pt_val h he).imp' fun σ H Q ⟨env, st, g, si, af⟩ => ⟨env, st, g, si, af.bool.imp fun d st' g' H' l si' ⟨k, e, q⟩ v r => by subst e; exact ⟨k, r.bl_inv, q⟩⟩
theorem tMB_tM {m : Env → Sto → R D} {σ : St} {H : Hp} {Q : Bool → Hp → Prop} (h : tMB W g0 H0 Wx m σ H Q) : tM W g0 H0 Wx m σ H (fun x H' => ∃ k, x = .bl k ∧ Q k H') :=
  let ⟨env, st, g, si, af⟩ := h
  ⟨env, st, g, si, af.bool.imp fun d st' g' H' l si' ⟨k, e, q⟩ v r => by subst e; exact ⟨k, r.bl_inv, q⟩⟩
theorem asB_asB (r : R D) (f : Bool → Sto → R D) : asB ((asB r).bind f) = (asB r).bind fun b s => asB (f b s) := by
  cases r with
  | ok d s => cases d <;> rfl
  | exc c fs s => rfl
  | bad => rfl
theorem ct_nt (ha : PT X ea (tMB W g0 H0 Wx (ev T C a))) : PT X (.UnaryOp .Not ea pos) (tMB W g0 H0 Wx (ev T C (.nt a))) :=
  (pt_not ha).imp' fun σ H Q ⟨env, st, g, si, af⟩ => by
    simp only [ev, asB_asB] at af
    exact ⟨env, st, g, si, af.bind.imp fun k st1 g1 H1 l1 si1 af1 => af1 g1 H1 (.refl g1) si1⟩
theorem ct_and {rest : List Expr} (ha : PT X ea (tMB W g0 H0 Wx (ev T C a))) (hb : PW X (.BoolOp .And (eb :: rest) pos) (tMB W g0 H0 Wx (ev T C b))) : PW X (.BoolOp .And (ea :: eb :: rest) pos) (tMB W g0 H0 Wx (ev T C (.and a b))) :=
  (pw_and ha hb).imp' fun σ H Q ⟨env, st, g, si, af⟩ => by
    simp only [ev, asB_asB] at af
    refine ⟨env, st, g, si, af.bind.imp fun k st1 g1 H1 l1 si1 af1 => ?_⟩
    cases k with
    | true => exact ⟨env, st1, g1, si1, af1⟩
    | false => exact af1 g1 H1 (.refl g1) si1
theorem ct_or {rest : List Expr} (ha : PT X ea (tMB W g0 H0 Wx (ev T C a))) (hb : PW X (.BoolOp .Or (eb :: rest) pos) (tMB W g0 H0 Wx (ev T C b))) : PW X (.BoolOp .Or (ea :: eb :: rest) pos) (tMB W g0 H0 Wx (ev T C (.or a b))) :=
  (pw_or ha hb).imp' fun σ H Q ⟨env, st, g, si, af⟩ => by
    simp only [ev, asB_asB] at af
    refine ⟨env, st, g, si, af.bind.imp fun k st1 g1 H1 l1 si1 af1 => ?_⟩
    cases k with
    | true => exact af1 g1 H1 (.refl g1) si1
    | false => exact ⟨env, st1, g1, si1, af1⟩
theorem ct_cmp (xw : XW X W) (op : Cm) (hm : behindInMarks (opC op) eb = false) (ha : PE X ea (tMT W g0 H0 Wx (evT T C a))) (hb : PE X eb (tMT W g0 H0 Wx (evT T C b))) : PT X (.Compare ea [opC op] [eb] pos) (tMB W g0 H0 Wx (fun env s => (evT T C a env s).bind fun x s => (evT T C b env s).bind fun y s => (R.of (opCmp s op x y) s).bind fun b s => .ok (.bl b) s)) :=
  (pt_cmpR (op_cmp (W := W) (g0 := g0) (H0 := H0) (Wx := Wx) xw op) ha hb hm).imp' fun σ H Q h => by
    obtain ⟨env, st, g, si, af⟩ := tMB_tM h
    exact ⟨env, st, g, si, af.bind.imp fun d1 st1 g1 H1 l1 si1 af1 x rx => ⟨env, st1, g1, si1, af1.bind.imp fun d2 st2 g2 H2 l2 si2 af2 y ry => ⟨env, σ, st2, g2, d1, d2, si2, rx.mono l2, ry, af2⟩⟩⟩
theorem ct_chn (xw : XW X W) (o1 o2 : Cm) (hm : lastMarks [opC o1, opC o2] [eb, ec] = false) (ha : PE X ea (tM W g0 H0 Wx (ev T C a))) (hb : PE X eb (tM W g0 H0 Wx (ev T C b))) (hc : PE X ec (tM W g0 H0 Wx (ev T C c))) : PT X (.Compare ea [opC o1, opC o2] [eb, ec] pos) (tMB W g0 H0 Wx (ev T C (.chn o1 o2 a b c))) :=
  (pt_chain (op_cmp (W := W) (g0 := g0) (H0 := H0) (Wx := Wx) xw o1) (op_cmp (W := W) (g0 := g0) (H0 := H0) (Wx := Wx) xw o2) ha hb hc hm).imp' fun σ H Q h => chn_imp o1 o2 (by have h' := tMB_tM h; rw [ev_chn] at h'; exact h')
theorem cf_ite (hc : PT X ec (tMB W g0 H0 Wx (ev T C c))) (ha : PE X ea (tM W g0 H0 Wx (ev T C a))) (hb : PE X eb (tM W g0 H0 Wx (ev T C b))) : PE X (.IfExp ec ea eb pos) (tM W g0 H0 Wx (ev T C (.ite c a b))) :=
  (pe_ifExp hc ha hb).imp' fun σ H Q ⟨env, st, g, si, af⟩ => by
    simp only [ev] at af
    refine ⟨env, st, g, si, af.bind.imp fun k st1 g1 H1 l1 si1 af1 => ?_⟩
    cases k with
    | true => exact ⟨env, st1, g1, si1, af1⟩
    | false => exact ⟨env, st1, g1, si1, af1⟩
/-! ### lists of arguments -/
theorem ca_nil : PA X [] (tMA W g0 H0 Wx (evs T C .nil)) := pa_nil.imp' fun σ H Q ⟨env, st, g, si, af⟩ => by
  simp only [evs] at af
  exact af g H (.refl g) si [] .nil
theorem ca_cons {es : As} {rest : List Expr} (hs : starEach (ea :: rest) X.env = (false, eval ea X.env) :: starEach rest X.env) (ha : PE X ea (tM W g0 H0 Wx (ev T C a))) (hr : PA X rest (tMA W g0 H0 Wx (evs T C es))) : PA X (ea :: rest) (tMA W g0 H0 Wx (evs T C (.cons a es))) :=
  (pa_cons ha hr hs).imp' fun σ H Q ⟨env, st, g, si, af⟩ => by
    simp only [evs] at af
    exact ⟨env, st, g, si, af.bind.imp fun d1 st1 g1 H1 l1 si1 af1 x rx => ⟨env, st1, g1, si1, af1.bind.imp fun ds st2 g2 H2 l2 si2 af2 xs rxs => af2 g2 H2 (.refl g2) si2 (x :: xs) (.cons (rx.mono l2) rxs)⟩⟩
theorem caT_nil : PA X [] (tMAT W g0 H0 Wx (evTs T C .nil)) := pa_nil.imp' fun σ H Q ⟨env, st, g, si, af⟩ => by
  simp only [evTs] at af
  exact af g H (.refl g) si [] .nil
theorem rts_mono {env : Env} {σ : St} {g g' : Gh} (l : Gh.le g g') {vs : List V} {ds : List D} (h : Paired (RT W g H0 env σ) vs ds) : Paired (RT W g' H0 env σ) vs ds := Paired.mapP h fun _ _ r => r.mono l
theorem caT_cons {es : As} {rest : List Expr} (hs : starEach (ea :: rest) X.env = (false, eval ea X.env) :: starEach rest X.env) (ha : PE X ea (tMT W g0 H0 Wx (evT T C a))) (hr : PA X rest (tMAT W g0 H0 Wx (evTs T C es))) : PA X (ea :: rest) (tMAT W g0 H0 Wx (evTs T C (.cons a es))) :=
  (pa_cons ha hr hs).imp' fun σ H Q ⟨env, st, g, si, af⟩ => by
    simp only [evTs] at af
    exact ⟨env, st, g, si, af.bind.imp fun d1 st1 g1 H1 l1 si1 af1 x rx => ⟨env, st1, g1, si1, af1.bind.imp fun ds st2 g2 H2 l2 si2 af2 xs rxs => af2 g2 H2 (.refl g2) si2 (x :: xs) (.cons (rx.mono l2) rxs)⟩⟩
theorem ca_star (xw : XW X W) {es : As} {rest : List Expr} {p : Pos} (hs : starEach (.Starred ea p :: rest) X.env = (true, eval ea X.env) :: starEach rest X.env) (ha : PE X ea (tMT W g0 H0 Wx (evT T C a))) (hr : PA X rest (tMA W g0 H0 Wx (evs T C es))) : PA X (.Starred ea p :: rest) (tMA W g0 H0 Wx (evs T C (.star a es))) :=
  (StX.pa_star ha hr hs).imp' fun σ H Q ⟨env, st, g, si, af⟩ => by
    simp only [evs] at af
    refine ⟨env, st, g, si, af.bind.imp fun d1 st1 g1 H1 l1 si1 af1 x rx => ?_⟩
    cases e : itemsOf st1 d1 with
    | none => rw [e] at af1; exact af1.elim
    | some l =>
      rw [e] at af1
      have af1 : Aft W g0 H0 Wx env σ g1 ((evs T C es env st1).bind fun ds s => .ok (l ++ ds) s) _ := af1
      obtain ⟨p, vs, ep, h2, h3⟩ := si1.items xw.ok rx e
      exact ⟨p, vs, ep, (sqLT xw h2).symm, env, st1, g1, si1, af1.bind.imp fun ds st2 g2 H2 l2 si2 af2 xs rxs => af2 g2 H2 (.refl g2) si2 (vs ++ xs) (pairedApp (h3.mono l2) rxs)⟩
/-! ### displays -/
theorem cf_tup {es : As} {l : List Expr} {k} (h : PA X l (tMA W g0 H0 Wx (evs T C es))) : PE X (.Tuple l k pos) (tM W g0 H0 Wx (ev T C (.tup es))) :=
  (pe_tupN h).imp' fun σ H Q ⟨env, st, g, si, af⟩ => by
    simp only [ev] at af
    refine ⟨env, st, g, si, af.bind.imp fun ds st1 g1 H1 l1 si1 af1 vs rvs => ?_⟩
    split at af1
    · rename_i hz
      exact ⟨by rw [pairedLen rvs]; exact le_line hz, finT si1 af1 rvs⟩
    · exact af1.elim
theorem cf_lst {es : As} {l : List Expr} (h : PA X l (tMA W g0 H0 Wx (evs T C es))) : PE X (.List l pos) (tMF W g0 H0 Wx (evF T C (.lst es))) :=
  (pe_lst h).imp' fun σ H Q ⟨env, st, g, si, af⟩ => by
    simp only [evF] at af
    refine ⟨env, st, g, si, af.bind.imp fun ds st1 g1 H1 l1 si1 af1 vs rvs => ?_⟩
    split at af1
    · rename_i hz
      exact ⟨by rw [pairedLen rvs]; exact le_line hz, finLN si1 af1 rvs⟩
    · exact af1.elim
theorem pe_new {m : Env → Sto → R D} (h : PE X ea (tMF W g0 H0 Wx m)) : PE X ea (tM W g0 H0 Wx m) := h.imp' fun σ H Q ⟨env, st, g, si, af⟩ => ⟨env, st, g, si, af.nw⟩
theorem cf_fr {f : F} (h : PE X ea (tMF W g0 H0 Wx (evF T C f))) : PE X ea (tM W g0 H0 Wx (ev T C (.fr f))) := by
  have e : ev T C (.fr f) = evF T C f := by funext env s; simp only [ev]
  rw [e]
  exact pe_new h
/-- into the store -/
theorem SI.store {env : Env} {σ : St} {st : Sto} {g : Gh} {H : Hp} {p : Addr} {d : D} {x : SO} (si : SI W g0 H0 env st g σ H) (o : Own0 W H0 env σ g H p d) (so : SoR W H g p x) : SI W g0 H0 env (st ++ [x]) (g.addS p) σ H := by
  refine ⟨si.hs.stored o.fz o.mu so o.ow.some o.ow.nf, ⟨si.fr.le.trans addS_le, si.fr.keep, si.fr.fz, fun a ha m => ?_, si.fr.al⟩, si.er.len, fun i s y e1 e2 => ?_, si.er.ap⟩
  · have m' : a ∈ g.mu ++ [p] := m
    rcases List.mem_append.mp m' with m' | m'
    · exact si.fr.mu a ha m'
    · simp at m'; exact absurd o.h0 (m' ▸ ha)
  · have q := si.er.sl i s y e1 e2
    cases s with
    | emp => trivial
    | pu d0 => exact q.elim fun v z => ⟨v, z.1, z.2.mono addS_le⟩
    | ow d0 =>
      obtain ⟨a, e, n, m, h0, r⟩ := q
      have ne : a ≠ p := fun z => o.no i d0 e1 (by rw [e2, e, z])
      refine ⟨a, e, n, fun z => ?_, h0, r.at rfl addS_le⟩
      have z' : a ∈ g.mu ++ [p] := z
      rcases List.mem_append.mp z' with z' | z'
      · exact m z'
      · simp at z'; exact ne z'
    | ex c fs => trivial
    | hd a c fs => exact q
theorem cf_al {f : F} (h : PE X ea (tMF W g0 H0 Wx (evF T C f))) : PE X ea (tM W g0 H0 Wx (ev T C (.al f))) :=
  h.imp' fun σ H Q ⟨env, st, g, si, af⟩ => by
    simp only [ev] at af
    refine ⟨env, st, g, si, af.bind.imp fun d st1 g1 H1 l1 si1 af1 => ?_⟩
    cases d with
    | lst l =>
      refine ⟨fun hf => (by cases hf), fun p o => ?_⟩
      obtain ⟨vs, h1, h2⟩ := o.ow
      exact af1 (g1.addS p) H1 addS_le (si1.store o (x := .lst l) ⟨vs, h1, h2⟩) _ (addS_at si1.hs)
    | dct l =>
      refine ⟨fun hf => (by cases hf), fun p o => ?_⟩
      obtain ⟨u, h1, h2⟩ := o.ow
      exact af1 (g1.addS p) H1 addS_le (si1.store o (x := .dct l) ⟨u, h1, h2⟩) _ (addS_at si1.hs)
    | _ => exact af1.elim
/-- a + b, two lists -/
theorem cf_cat (xw : XW X W) (ha : PE X ea (tMT W g0 H0 Wx (evT T C a))) (hb : PE X eb (tMT W g0 H0 Wx (evT T C b))) : PE X (.BinOp ea .Add eb pos) (tMF W g0 H0 Wx (evF T C (.cat a b))) :=
  (pe_op (op_bin (W := W) (g0 := g0) (H0 := H0) (Wx := Wx) xw.K xw.ok .add) ha hb).imp' fun σ H Q ⟨env, st, g, si, af⟩ => by
    simp only [evF] at af
    refine ⟨env, st, g, si, af.bind.imp fun d1 st1 g1 H1 l1 si1 af1 x rx => ⟨env, st1, g1, si1, af1.bind.imp fun d2 st2 g2 H2 l2 si2 af2 y ry => ⟨env, σ, st2, g2, d1, d2, si2, rx.mono l2, ry, ?_⟩⟩⟩
    cases d1 with
    | lst l =>
      cases d2 with
      | lst m =>
        simp only [opBin, opAdd]
        simp only at af2
        split at af2
        · rename_i hz
          rw [if_pos hz]
          exact af2
        · exact af2.elim
      | _ => exact af2.elim
    | _ => exact af2.elim
/-! ### subscripts -/
theorem cf_sub (xw : XW X W) (hs : PlainIx eb) (ha : PE X ea (tMT W g0 H0 Wx (evT T C a))) (hb : PE X eb (tM W g0 H0 Wx (ev T C b))) : PE X (.Subscript ea eb pos) (tM W g0 H0 Wx (ev T C (.sub a b))) :=
  (pe_ix (ix_all (W := W) (g0 := g0) (H0 := H0) (Wx := Wx) xw) ha hb hs).imp' fun σ H Q ⟨env, st, g, si, af⟩ => by
    simp only [ev] at af
    exact ⟨env, st, g, si, af.bind.imp fun d1 st1 g1 H1 l1 si1 af1 x rx => ⟨env, st1, g1, si1, af1.bind.imp fun d2 st2 g2 H2 l2 si2 af2 y ry => ⟨env, σ, st2, g2, d1, d2, si2, rx.mono l2, ry, af2⟩⟩⟩
theorem _root_.L2.PO.imp' {e : Option Expr} {t t' : TO} (h : PO X e t) (k : ∀ σ H Q, t' σ H Q → t σ H Q) : PO X e t' := ⟨fun pins s σ H Q I q => h.run pins s σ H Q I (k σ H Q q)⟩
theorem co_no : PO X none (tMO W g0 H0 Wx (evO T C .no)) := po_none.imp' fun σ H Q ⟨env, st, g, si, af⟩ => by
  simp only [evO] at af
  exact af g H (.refl g) si none rfl
theorem co_so (ha : PE X ea (tM W g0 H0 Wx (ev T C a))) : PO X (some ea) (tMO W g0 H0 Wx (evO T C (.so a))) := (po_some ha).imp' fun σ H Q ⟨env, st, g, si, af⟩ => by
  simp only [evO] at af
  refine ⟨env, st, g, si, af.bind.imp fun d st1 g1 H1 l1 si1 af1 x rx => ?_⟩
  cases d with
  | int i => exact ⟨i, rx.int_inv, af1 g1 H1 (.refl g1) si1 (some i) rfl⟩
  | _ => exact af1.elim
theorem cf_slc (xw : XW X W) {lo hi : Oe} {elo ehi : Option Expr} {p2 : Pos} (ha : PE X ea (tMT W g0 H0 Wx (evT T C a))) (hl : PO X elo (tMO W g0 H0 Wx (evO T C lo))) (hh : PO X ehi (tMO W g0 H0 Wx (evO T C hi))) : PE X (.Subscript ea (.Slice elo ehi none p2) pos) (tM W g0 H0 Wx (ev T C (.slc a lo hi))) :=
  (pe_slice (sl_all (W := W) (g0 := g0) (H0 := H0) (Wx := Wx) xw) ha hl hh).imp' fun σ H Q ⟨env, st, g, si, af⟩ => by
    simp only [ev] at af
    exact ⟨env, st, g, si, af.bind.imp fun d1 st1 g1 H1 l1 si1 af1 x rx => ⟨env, st1, g1, si1, af1.bind.imp fun o1 st2 g2 H2 l2 si2 af2 lo h1 => ⟨env, st2, g2, si2, af2.bind.imp fun o2 st3 g3 H3 l3 si3 af3 hi h2 =>
      ⟨env, σ, st3, g3, d1, o1, o2, si3, (rx.mono l2).mono l3, h1, h2, af3⟩⟩⟩⟩
end
end CF
/-! CFXi -/
/-! An own exception: def __init__(self, x): super().__init__("..") ; self.f = x. -/
namespace CF
open PySem PySem.Spec PyProof.Rows L2
section
variable {prog : Program} {w : World} {A : Around} {E : Value → Shared → Prop}
/-- the bound built-in __init__ is called: its arguments are laid anew -/
theorem xi_call {h : Heap} {g : Array GenState} {d : Drawn} {t : Nat} {os : OsState} {K : PySem.W.Frag} {u x C : Addr} {us : List Value} {Q : Value → Shared → Prop} (T : OexC K C) (KX : K.In h) (hu : h.get? u = some (PySem.W.kxs_mw "ValueError.__init__" x))
    {t1 : Addr} (hx : h.get? x = some ({ cls := .ref C, dict := none, data := .fields #[.ref t1, .none, .none, .none, .bool false, .none] } : Obj)) (hl : us.length ≤ sizeLine)
    (q : ∀ h' t2, (∀ b o, b ≠ x → h.get? b = some o → h'.get? b = some o) → h'.get? x = some ({ cls := .ref C, dict := none, data := .fields #[.ref t2, .none, .none, .none, .bool false, .none] } : Obj) → Q .none ⟨h', g, d, t, os⟩) :
    wpAny (model prog w) A (call (.ref u) us) Q E ⟨h, g, d, t, os⟩ := by
  obtain ⟨nm, qn, N, bs, bm, sn, sub, ab, col, dd, k0, k1, k2, k3, k5, hC, hbm⟩ := T.cls
  have FB := F.excBase_ValueError
  refine wpAny_call (codeAny_of_tree ?_)
  show wpAny _ A.in1 (callAny (.ref u) ⟨us, []⟩) _ _ _
  simp only [callAny]
  refine wpAny_bind (wpAny_load hu ?_)
  have c1 : (Value.type "method-wrapper" == Value.type "method" || Value.type "method-wrapper" == Value.type "builtin_function_or_method" || Value.type "method-wrapper" == Value.type "method-wrapper") = true := by decide
  simp only [PySem.W.kxs_mw, c1, if_true]
  refine PySem.W.KFB.if_so (by decide) ?_
  refine wpAny_bind (PySem.W.check_bound_init FB.toExcCallFacts (KX _ _ hC) hx rfl (wpAny_bind (wpAny_pure (wpAny_pure ?_))))
  refine ⟨plainId_quiet FB.init.plain _, codeAny_builtin FB.initEntry ?_⟩
  exact PySem.W.exc_init_tree (cls := .ref C) (t0 := t1) (dv := none) (c2 := .none) (c3 := .none) (b4 := .bool false) hx hl fun h' k e _ => q h' _ k e
end
open L2 in
/-- what an own __init__(self, y) keeps: self.f = y -/
def spXI (C : Addr) (f : Str) : Sp := fun vs H Q _ => ∃ a y, vs = [V.ref a, y] ∧ H a = some (exo a C none) ∧ ∀ dx, H dx = none → dx ≠ a → Q .non (upd (upd H dx (exd dx [(f, y)])) a (exo a C (some dx)))
open L2 in
/-- an exception class with such an __init__ -/
structure ExI (P : Program) (w : World) (K : PySem.W.Frag) (mg : Str → Option Value) (C : Addr) (f : Str) : Prop where
  fn : ∃ fI fd ps, (∀ (base : Heap) (X : CXT) (k : Nat), FnOk P w K mg base X (k + 1) fI fd ps (spXI C f)) ∧ Binds K fd ps [] ∧ PySem.W.findIn K (.ref C) "__init__" = some (some (.ref fI)) ∧ PySem.W.typeIn K (.ref fI) = some (.type "function")
  T : OexC K C
  xf : XfC K C
  no : PySem.W.findIn K (.ref C) f = some none
end CF
/-! CFCall -/
/-! Calls: functions, methods, properties, new instances. -/
namespace CF
open PySem PySem.Spec L2
/-- what is wanted of a call's end -/
def AftC (W : Wld) (g : Gh) (H : Hp) (r : R D) (Q : VK) (E : XK) : Prop := match r with
  | .ok d st => ∀ g' H', HS W g' st H' → Frm g H g' H' → ∀ v, RV g' v d → Q v H'
  | .exc c fs st => ∀ cls dd g' H', HS W g' st H' → Frm g H g' H' → ExD W H' g' c fs cls dd → E cls dd H'
  | .bad => False
/-- a function's promise -/
def sp (W : Wld) (n : Nat) (f : Nat) : Sp := fun vs H Q E => ∃ g st ds, HS W g st H ∧ RVs g vs ds ∧ AftC W g H (callN W.T n f ds st) Q E
/-- a dict of the module, entry by entry -/
def KTab : List DictEntry → List (List Nat × D) → Prop := Paired fun e q => (∃ t, e.key = .str (toS q.1) t) ∧ ∃ v, RelV v e.val ∧ ∀ g : Gh, RV g v q.2
/-- a suite that is proved by hand: what it asks, what it leaves -/
def tHx (W : Wld) (j : Nat) (p : HSt) (a : Addr) (cls : Value) (d : Option Addr) : TS := fun D σ H => ∃ env st g c fs v, SI W g H env st g σ H ∧ σ[p.i]? = some (some (.ref a)) ∧ env[p.i]? = some (.ex c fs) ∧ ExD W H g c fs cls d ∧ H a = none ∧ W.T.hx j env st = some v ∧
  ∀ σ' g' H', Gh.le g g' → SI W g H (env.set p.x (.pu v)) st g' σ' H' → D.nx σ' H'
def HxOk (W : Wld) (j : Nat) (p : HSt) : Prop := ∀ (N : List Str) (sc : Scope) (body : List Stmt), p.ok N sc body = true → ∀ (X : Cx) (n : Nat), XW X W → X.calm = true → X.N = N → X.N.Nodup → X.env.scope = sc → Room (3 * n + 5) X.A → X.xe = X.xe →
  ∀ (a : Addr) (oe : Obj) (cls : Value) (d : Option Addr) (pn : List (Addr × Obj)), L2N.Zn cls d oe → (∃ vs, oe.data = .fields vs) → PSs (X.suite a ((a, oe) :: pn)) body (tHx W j p a cls d)
structure WOk (W : Wld) : Prop where
  ok0 : W.Ok0
  gf : ∀ f, W.isG f = true → W.mg (W.gn f) = some (.ref (W.ad f)) ∧ PySem.W.keepIn W.K (.ref (W.ad f)) = true
  cl : ∀ c C, W.cls c = some C → Cls W.K C
  at_ : ∀ c C a, W.cls c = some C → W.T.att c a = some none → NoAttr W.K C (W.an a)
  pr : ∀ c C a f, W.cls c = some C → W.T.att c a = some (some f) → ∃ p, PropOf W.K C (W.an a) p (W.ad f)
  me : ∀ c C m f, W.cls c = some C → W.T.meth c m = some f → Meth W.K C (W.mn m) (W.ad f)
  eq : ∀ c C f, W.cls c = some C → W.T.eqm c = some f → PySem.W.findIn W.K (.ref C) "__eq__" = some (some (.ref (W.ad f))) ∧ PySem.W.isFn W.K (.ref (W.ad f)) = true
  eqt : ∀ c C f, W.cls c = some C → W.T.eqm c = some f → PySem.W.subIn W.K (.type "tuple") (.ref C) = some false
  len : ∀ c C f, W.cls c = some C → W.T.lenm c = some f → PySem.W.findIn W.K (.ref C) "__len__" = some (some (.ref (W.ad f))) ∧ PySem.W.isFn W.K (.ref (W.ad f)) = true
  mkc : ∀ c f, W.T.init c = some f → ∃ C, W.cls c = some C ∧ Mk W.K C (W.ad f) ∧ W.mg (W.cn c) = some (.ref C)
  nm : ∀ m a, W.mn m ≠ W.an a
  inj : ∀ a b, W.an a = W.an b → a = b
  iB : ∀ c C, W.T.isC c = true → W.cls c = some C → ∀ t ∈ ["NoneType", "bool", "int", "str", "tuple", "list", "dict"], PySem.W.kitOne W.K (.type t) (.ref C) = some false
  iO : ∀ c C c' C', W.T.isC c = true → W.T.isC c' = true → W.cls c = some C → W.cls c' = some C' → PySem.W.kitOne W.K (.ref C') (.ref C) = some (decide (c' = c)) ∧ (PySem.W.findIn W.K (.ref C') "__class__" = some (some (.builtin "object.__class__")) ∧
      PySem.W.specialIn W.K (.builtin "object.__class__") "__get__" = some (some (.builtin "getset_descriptor.__get__")) ∧ PySem.W.takesIn W.K (.builtin "object.__class__") = some true ∧ PySem.W.mroIn W.K C' (.type "object") = some true)
  iG : ∀ c C, W.T.isC c = true → W.cls c = some C → W.mg (W.cn c) = some (.ref C)
  gc : ∀ x d, W.gc x = some d → ∃ v u, W.mg x = some u ∧ RelV v u ∧ (x == ("__debug__" : Str)) = false ∧ ∀ g : Gh, g.k0 = W.f0 → RV g v d
  kd : ∀ x l, W.kd x = some l → ∃ a es k, W.mg x = some (.ref a) ∧ (x == ("__debug__" : Str)) = false ∧ KDict W.K W.w a es k ∧ KTab es.toList l
  ex : ∀ c fs, W.T.exf c = some fs → ∃ C, W.xls c = some C ∧ W.mg (W.cn c) = some (.ref C) ∧ PySem.W.keepIn W.K (.ref C) = true ∧ PySem.W.subIn W.K (.ref C) (.type "BaseException") = some true ∧ PySem.W.typeIn W.K (.ref C) = some (.type "type")
  ex0 : ∀ c C, W.T.exf c = some [] → W.xls c = some C → ∃ B newId initId bmB, ExcBaseFacts B newId initId bmB ∧ PySem.W.excIn W.K C bmB newId = true
  ex1 : ∀ c b C, W.T.exf c = some [b] → W.xls c = some C → ExI W.P W.w W.K W.mg C (W.an b)
  hx : ∀ j p, W.hs j = some p → HxOk W j p
  exs : ∀ c h C Ch, (W.T.exf c).isSome = true → (W.T.exf h).isSome = true → W.xls c = some C → W.xls h = some Ch → PySem.W.exmOne W.K (.ref C) (.ref Ch) = some (W.T.sup c h)
/-- no exception may leave -/
theorem takes0N {X : Cx} : L2N.Takes X (fun _ _ _ _ => False) := fun _ _ ⟨_, _, _, _, _, _, _, _, _, _, _, _, _, _, _, _, z⟩ => z.elim
/-- the context of a body -/
structure CxOk (X : Cx) (W : Wld) (n : Nat) (Wx : WX) : Prop where
  xw : XW X W
  calm : X.calm = true
  wok : WOk W
  nd : X.N.Nodup
  tk : L2N.Takes X Wx
  room : Room (3 * n + 5) X.A
  po : PassesOwn (model X.prog X.w) X.A X.env X.xe
  fns : ∀ f fd, W.T.fn f = some fd → FnOk X.prog X.w X.K X.mg X.base (L2N.CX X.prog X.w) (3 * n + 3) (W.ad f) (W.fd f) (W.ps f) (sp W n f) ∧ Binds X.K (W.fd f) (W.ps f) []
section
variable {X : Cx} {W : Wld} {n : Nat} {g0 : Gh} {H0 : Hp} {Wx : WX} {env : Env} {σ σ' : St} {st : Sto} {g : Gh} {H : Hp} {pins : List (Addr × Obj)} {s : Shared} {Q : VK}
theorem aftC_of {r : R D} (si : SI W g0 H0 env st g σ H) (af : Aft W g0 H0 Wx env σ g r (Val Q)) : AftC W g H r Q (WE Wx σ) := by
  cases r with
  | ok d st' => exact fun g' H' hs fr v rv => af g' H' fr.le (si.next hs fr) v rv
  | exc c fs st' => exact fun cls dd g' H' hs fr ex => af cls dd g' H' fr.le (si.next hs fr) ex
  | bad => exact af
theorem AftC.frm {r : R D} {g1 : Gh} {H1 : Hp} {E : XK} (h : AftC W g H r Q E) (f : Frm g H g1 H1) : AftC W g1 H1 r Q E := by
  cases r with
  | ok d st' => exact fun g' H' hs fr v rv => h g' H' hs (f.trans fr) v rv
  | exc c fs st' => exact fun cls dd g' H' hs fr ex => h cls dd g' H' hs (f.trans fr) ex
  | bad => exact h
theorem fn_some {T : Tab} {k : Nat} {f : Nat} {ds : List D} {st : Sto} {Q : VK} {E : XK} (h : AftC W g H (callN T k f ds st) Q E) : ∃ fd, T.fn f = some fd ∧ ds.length = fd.np := by
  cases k with
  | zero => exact h.elim
  | succ k =>
    unfold callN at h
    cases e : T.fn f with
    | none => rw [e] at h; exact h.elim
    | some fd =>
      rw [e] at h
      refine ⟨fd, rfl, ?_⟩
      by_cases hc : ds.length = fd.np ∧ fd.np ≤ fd.nl
      · exact hc.1
      · simp only [if_neg hc] at h
        exact h.elim
/-- the callee runs -/
theorem run_cf (cx : CxOk X W n Wx) (f : Nat) {vs : List V} {us : List Value} {ds : List D} (I : Inv X pins σ H s) (r : Vals vs us) (si : SI W g0 H0 env st g σ H) (rv : RVs g vs ds) (af : Aft W g0 H0 Wx env σ g (callN W.T n f ds st) (Val Q)) :
    wpAny (model X.prog X.w) X.A (call (.ref (W.ad f)) us) (EP X pins σ Q) X.xe s := by
  have ac := aftC_of si af
  obtain ⟨fd, hf, _⟩ := fn_some ac
  obtain ⟨F, hb⟩ := cx.fns f fd hf
  exact run_fnS F (cx.room.mono (by omega)) hb (L2N.passAt cx.tk σ) I r ⟨g, st, ds, si.hs, rv, ac⟩
theorem paired1 {α β : Type} {F : α → β → Prop} {a : α} {b : β} (h : F a b) : Paired F [a] [b] := .cons h .nil

variable {T : Tab} {a : E} {ea : Expr} {es : As} {l : List Expr} {pos p apos : Pos} {x : Str}
/-- f(..) -/
theorem cf_call (cx : CxOk X W n Wx) {f : Nat} (hf : W.isG f = true) (hg : Gl X (W.gn f)) (hdb : (W.gn f == ("__debug__" : Str)) = false) {e : Expr} {es' : List Expr} (ha : PA X (e :: es') (tMA W g0 H0 Wx (evs W.T (callN W.T n) es)))
    (he : starEach (e :: es') X.env = (false, eval e X.env) :: starEach es' X.env) (hpl : (backTo pos (starEach es' X.env)).any (·.1) = false) : PE X (.Call (.Name (W.gn f) p) (e :: es') [] pos) (tM W g0 H0 Wx (ev W.T (callN W.T n) (.call f es))) := by
  obtain ⟨hm, hk⟩ := cx.wok.gf f hf
  refine ⟨fun pins s σ H Q I ⟨env, st, g, si, af⟩ => ?_⟩
  simp only [ev] at af
  refine wpAny_Call_Name_kw (ld_glob I hg (by rw [cx.xw.mg]; exact hm) ?_ hdb)
  refine PySem.W.callWith_K (h₀ := X.base) I.ok.mod.kin (by rw [cx.xw.K]; exact hk) (thn (ha.run pos pins s σ H (fun vs H1 => ∃ ds st1 g1, SI W g0 H0 env st1 g1 σ H1 ∧ RVs g1 vs ds ∧ Aft W g0 H0 Wx env σ g1 (callN W.T n f ds st1) (Val Q)) I
    ⟨env, st, g, si, af.bind.imp fun ds st1 g1 H1 l1 si1 af1 vs rvs => ⟨ds, st1, g1, si1, rvs, af1⟩⟩) fun us s1 ⟨vs, H1, I1, r, ds, st1, g1, si1, rvs, af1⟩ => ⟨I1.kIn, run_cf cx f I1 r si1 rvs af1⟩) he hpl
theorem cf_call0 (cx : CxOk X W n Wx) {f : Nat} (hf : W.isG f = true) (hg : Gl X (W.gn f)) (hdb : (W.gn f == ("__debug__" : Str)) = false) : PE X (.Call (.Name (W.gn f) p) [] [] pos) (tM W g0 H0 Wx (ev W.T (callN W.T n) (.call f .nil))) := by
  obtain ⟨hm, hk⟩ := cx.wok.gf f hf
  refine ⟨fun pins s σ H Q I ⟨env, st, g, si, af⟩ => ?_⟩
  simp only [ev, evs] at af
  refine wpAny_Call_Name_kw (ld_glob I hg (by rw [cx.xw.mg]; exact hm) ?_ hdb)
  exact PySem.W.callWith_K0 I.kIn (by rw [cx.xw.K]; exact hk) (run_cf cx f (us := []) I .nil si .nil af)
/-- an instance, read -/
theorem SI.ins (si : SI W g0 H0 env st g σ H) {m c : Nat} {fs : List (Nat × D)} {v : V} (r : RV g v (.ref m)) (e : insAt st m = some (c, fs)) : ∃ a C dx vs, v = .ref a ∧ g.mu[m]? = some a ∧ a ∈ g.mu ∧ W.cls c = some C ∧ H a = some (.ins C dx vs) ∧ Paired (fun p q => p.1 = W.an q.1 ∧ RV g p.2 q.2) vs fs := by
  unfold insAt at e
  split at e <;> cases e
  rename_i hn
  obtain ⟨a, ea, hm, hmu, C, dx, vs, h1, h2, h3⟩ := si.at_ r hn
  exact ⟨a, C, dx, vs, ea, hm, hmu, h1, h2, h3⟩
theorem fs_no (wok : WOk W) {m : Nat} : ∀ {vs : List (Str × V)} {fs : List (Nat × D)}, Paired (fun p q => p.1 = W.an q.1 ∧ RV g p.2 q.2) vs fs → vs.lookup (W.mn m) = none
  | _, _, .nil => rfl
  | (b, v) :: vs, (k, d) :: fs, .cons h t => by
    have hb : b = W.an k := h.1
    subst hb
    rw [List.lookup_cons, show (W.mn m == W.an k) = false from beq_eq_false_iff_ne.mpr (wok.nm m k)]
    exact fs_no wok t
theorem fs_at (wok : WOk W) {a : Nat} {d : D} : ∀ {vs : List (Str × V)} {fs : List (Nat × D)}, Paired (fun p q => p.1 = W.an q.1 ∧ RV g p.2 q.2) vs fs → fieldOf fs a = some d → ∃ v, vs.lookup (W.an a) = some v ∧ RV g v d
  | _, _, .nil, e => by cases e
  | (b, v) :: vs, (k, d') :: fs, .cons h t, e => by
    have hb : b = W.an k := h.1
    subst hb
    unfold fieldOf at e
    rw [List.lookup_cons] at e
    rw [List.lookup_cons]
    by_cases hk : a = k
    · subst hk
      simp only [beq_self_eq_true] at e ⊢
      cases e
      exact ⟨v, rfl, h.2⟩
    · rw [show (a == k) = false from beq_eq_false_iff_ne.mpr hk] at e
      rw [show (W.an a == W.an k) = false from beq_eq_false_iff_ne.mpr fun z => hk (wok.inj _ _ z)]
      exact fs_at wok t e
theorem fs_put (wok : WOk W) {a : Nat} {d : D} {v : V} (r : RV g v d) : ∀ {vs : List (Str × V)} {fs : List (Nat × D)}, Paired (fun p q => p.1 = W.an q.1 ∧ RV g p.2 q.2) vs fs → Paired (fun p q => p.1 = W.an q.1 ∧ RV g p.2 q.2) (putF (W.an a) v vs) (putField fs a d)
  | _, _, .nil => .cons ⟨rfl, r⟩ .nil
  | (b, w) :: vs, (k, d') :: fs, .cons h t => by
    have hb : b = W.an k := h.1
    subst hb
    unfold putF putField
    by_cases hk : k = a
    · subst hk
      rw [if_pos rfl, if_pos rfl]
      exact .cons ⟨rfl, r⟩ t
    · rw [if_neg hk, if_neg fun z => hk (wok.inj _ _ z)]
      exact .cons h (fs_put wok r t)
theorem methF_inv {m : Nat} {o : D} {f : Nat} (h : methF W.T m o st = some f) : ∃ k c fs, o = .ref k ∧ insAt st k = some (c, fs) ∧ W.T.meth c m = some f := by
  unfold methF at h
  split at h
  · split at h
    · rename_i hi
      exact ⟨_, _, _, rfl, hi, h⟩
    · cases h
  · cases h
/-- o.m(..) -/
theorem cf_meth (cx : CxOk X W n Wx) {m : Nat} {pl : Sem Bool} {e : Expr} {es' : List Expr} (ho : PE X ea (tM W g0 H0 Wx (ev W.T (callN W.T n) a))) (ha : PA X (e :: es') (tMA W g0 H0 Wx (evs W.T (callN W.T n) es)))
    (hst : starEach (e :: es') X.env = (false, eval e X.env) :: starEach es' X.env) (hpl : (backTo pos (starEach es' X.env)).any (·.1) = false)
    (ht : eval (.Call (.Attribute ea (W.mn m) apos) (e :: es') [] pos) X.env = (do
      let ov ← eval ea X.env
      standAt apos.atName
      let (f, first) ← holding [ov] (getMethod ov (W.mn m) pl)
      callWith pos f first (backTo pos (starEach (e :: es') X.env)) (backToKw pos (keywordEach [] X.env)))) : PE X (.Call (.Attribute ea (W.mn m) apos) (e :: es') [] pos) (tM W g0 H0 Wx (ev W.T (callN W.T n) (.meth m a es))) := by
  refine ⟨fun pins s σ H Q I ⟨env, st, g, si, af⟩ => ?_⟩
  simp only [ev] at af
  refine PySem.W.methodCall_KW (pl := pl) (thn (ho.run pins s σ H (fun x H1 => ∃ d st1 g1, SI W g0 H0 env st1 g1 σ H1 ∧ RV g1 x d ∧ Aft W g0 H0 Wx env σ g1 (match methF W.T m d st1 with
    | some f => (evs W.T (callN W.T n) es env st1).bind fun ds s => callN W.T n f (d :: ds) s
    | none => .bad) (Val Q)) I ⟨env, st, g, si, af.bind.imp fun d st1 g1 H1 l1 si1 af1 x rx => ⟨d, st1, g1, si1, rx, af1⟩⟩) fun u s1 ⟨x, H1, I1, rx, d, st1, g1, si1, rd, af1⟩ => ?_) ht
  cases hf : methF W.T m d st1 with
  | none => rw [hf] at af1; exact af1.elim
  | some f =>
    rw [hf] at af1
    obtain ⟨k, c, fs, e1, e2, e3⟩ := methF_inv hf
    subst e1
    obtain ⟨ad, C, dx, vs, ex, h1, h2, h3, h4, h5⟩ := si1.ins rd e2
    subst ex
    obtain rfl : u = Value.ref ad := rx
    have hm := cx.wok.me c C m f h3 e3
    rw [← cx.xw.K] at hm
    refine getmeth_ok I1 h4 (by rw [cx.xw.K]; exact cx.wok.cl c C h3) hm (fs_no cx.wok h5) ?_
    refine PySem.W.callWith_K (first := [.ref ad]) (h₀ := X.base) I1.ok.mod.kin hm.kp (thn (ha.run pos pins s1 σ H1 (fun vs H2 => ∃ ds st2 g2, Gh.le g1 g2 ∧ SI W g0 H0 env st2 g2 σ H2 ∧ RVs g2 vs ds ∧ Aft W g0 H0 Wx env σ g2 (callN W.T n f (.ref k :: ds) st2) (Val Q)) I1
      ⟨env, st1, g1, si1, (Aft.bind (r := evs W.T (callN W.T n) es env st1) af1).imp fun ds st2 g2 H2 l2 si2 af2 vs rvs => ⟨ds, st2, g2, l2, si2, rvs, af2⟩⟩) fun us s2 ⟨vs2, H2, I2, r2, ds, st2, g2, l2, si2, rvs, af2⟩ => ⟨I2.kIn, ?_⟩) hst hpl
    exact run_cf cx f (us := .ref ad :: us) (vs := .ref ad :: vs2) I2 (.cons rfl r2) si2 (.cons (rd.mono l2) rvs) af2
theorem cf_meth0 (cx : CxOk X W n Wx) {m : Nat} {pl : Sem Bool} (ho : PE X ea (tM W g0 H0 Wx (ev W.T (callN W.T n) a)))
    (ht : eval (.Call (.Attribute ea (W.mn m) apos) [] [] pos) X.env = (do
      let ov ← eval ea X.env
      standAt apos.atName
      let (f, first) ← holding [ov] (getMethod ov (W.mn m) pl)
      callWith pos f first (backTo pos (starEach [] X.env)) (backToKw pos (keywordEach [] X.env)))) : PE X (.Call (.Attribute ea (W.mn m) apos) [] [] pos) (tM W g0 H0 Wx (ev W.T (callN W.T n) (.meth m a .nil))) := by
  refine ⟨fun pins s σ H Q I ⟨env, st, g, si, af⟩ => ?_⟩
  simp only [ev] at af
  refine PySem.W.methodCall_KW (pl := pl) (thn (ho.run pins s σ H (fun x H1 => ∃ d st1 g1, SI W g0 H0 env st1 g1 σ H1 ∧ RV g1 x d ∧ Aft W g0 H0 Wx env σ g1 (match methF W.T m d st1 with
    | some f => (evs W.T (callN W.T n) .nil env st1).bind fun ds s => callN W.T n f (d :: ds) s
    | none => .bad) (Val Q)) I ⟨env, st, g, si, af.bind.imp fun d st1 g1 H1 l1 si1 af1 x rx => ⟨d, st1, g1, si1, rx, af1⟩⟩) fun u s1 ⟨x, H1, I1, rx, d, st1, g1, si1, rd, af1⟩ => ?_) ht
  cases hf : methF W.T m d st1 with
  | none => rw [hf] at af1; exact af1.elim
  | some f =>
    rw [hf] at af1
    simp only [evs] at af1
    obtain ⟨k, c, fs, e1, e2, e3⟩ := methF_inv hf
    subst e1
    obtain ⟨ad, C, dx, vs, ex, h1, h2, h3, h4, h5⟩ := si1.ins rd e2
    subst ex
    obtain rfl : u = Value.ref ad := rx
    have hm := cx.wok.me c C m f h3 e3
    rw [← cx.xw.K] at hm
    refine getmeth_ok I1 h4 (by rw [cx.xw.K]; exact cx.wok.cl c C h3) hm (fs_no cx.wok h5) ?_
    exact PySem.W.callWith_K0 (first := [.ref ad]) I1.kIn hm.kp (run_cf cx f (us := [.ref ad]) (vs := [.ref ad]) I1 (.cons rfl .nil) si1 (.cons rd .nil) af1)
/-- o.a -/
theorem cf_att (cx : CxOk X W n Wx) {k : Nat} (ho : PE X ea (tM W g0 H0 Wx (ev W.T (callN W.T n) a))) (hab : attributeBase ea (W.an k) X.env (eval ea X.env) = eval ea X.env) : PE X (.Attribute ea (W.an k) pos) (tM W g0 H0 Wx (ev W.T (callN W.T n) (.att k a))) := by
  refine ⟨fun pins s σ H Q I ⟨env, st, g, si, af⟩ => ?_⟩
  simp only [ev] at af
  refine attr_of hab (thn (ho.run pins s σ H (fun x H1 => ∃ d st1 g1, SI W g0 H0 env st1 g1 σ H1 ∧ RV g1 x d ∧ Aft W g0 H0 Wx env σ g1 (attR W.T (callN W.T n) k d st1) (Val Q)) I ⟨env, st, g, si, af.bind.imp fun d st1 g1 H1 l1 si1 af1 x rx => ⟨d, st1, g1, si1, rx, af1⟩⟩)
    fun u s1 ⟨x, H1, I1, rx, d, st1, g1, si1, rd, af1⟩ => ?_)
  unfold attR at af1
  split at af1
  · rename_i m
    split at af1
    · rename_i c fs hi
      obtain ⟨ad, C, dx, vs, ex, h1, h2, h3, h4, h5⟩ := si1.ins rd hi
      subst ex
      obtain rfl : u = Value.ref ad := rx
      split at af1
      · rename_i f hf
        obtain ⟨p, hp⟩ := cx.wok.pr c C k f h3 hf
        rw [← cx.xw.K] at hp
        have ac : AftC W g1 H1 (callN W.T n f [.ref m] st1) Q (fun _ _ _ => False) := by
          revert af1
          cases hr : callN W.T n f [.ref m] st1 with
          | ok d' st' => exact fun af1 => aftC_of (r := .ok d' st') si1 af1
          | exc c fs st' => exact fun af1 => af1.elim
          | bad => exact fun af1 => af1.elim
        obtain ⟨fd, hfd, _⟩ := fn_some ac
        obtain ⟨F, hb⟩ := cx.fns f fd hfd
        refine getprop_ok I1 h4 (by rw [cx.xw.K]; exact cx.wok.cl c C h3) hp F (cx.room.mono (by omega)) hb .nil (E := fun _ _ _ => False) ?_ ⟨g1, st1, [.ref m], si1.hs, .cons rd .nil, ac⟩
        intro _ _ _ _ _ _ _ z
        obtain ⟨_, _, _, _, _, _, _, _, _, _, _, _, hE⟩ := z
        exact hE.elim
      · rename_i hf
        cases hd : fieldOf fs k with
        | none => rw [hd] at af1; exact af1.elim
        | some d =>
          rw [hd] at af1
          obtain ⟨v, hv, rv⟩ := fs_at cx.wok h5 hd
          refine getattr_ok I1 h4 (by rw [cx.xw.K]; exact cx.wok.cl c C h3) (by rw [cx.xw.K]; exact cx.wok.at_ c C k h3 hf) hv fun u' s' I' ru => ⟨v, H1, I', ru, fin0 si1 af1 rv⟩
      · exact af1.elim
    · exact af1.elim
  · exact af1.elim
end
end CF
/-! CFNew -/
/-! New instances, built-in functions by their names, isinstance. -/
namespace CF
open PySem PySem.Spec L2
section
variable {X : Cx} {W : Wld} {n : Nat} {g0 : Gh} {H0 : Hp} {Wx : WX} {env : Env} {σ σ' : St} {st : Sto} {g : Gh} {H : Hp} {pins : List (Addr × Obj)} {s : Shared} {Q : VK}
/-- a new instance, ahead of its __init__ -/
theorem new_hs {C dx x : Addr} {c : Nat} (hs : HS W g st H) (hc : W.cls c = some C) (hx : H x = none) (hd : H dx = none) (ne : dx ≠ x) :
    HS W (g.addS x) (st ++ [.ins c []]) (upd (upd H dx (.own x)) x (.ins C dx [])) ∧ Frm g H (g.addS x) (upd (upd H dx (.own x)) x (.ins C dx [])) := by
  have hx1 : upd H dx (.own x) x = none := by rw [upd_ne (Ne.symm ne)]; exact hx
  have h1 : HS W g st (upd H dx (.own x)) := hs.lay hd
  have h2 : HS W g st (upd (upd H dx (.own x)) x (.ins C dx [])) := h1.lay hx1
  refine ⟨h2.stored (x := .ins c []) (h1.nofz hx1) (h1.nomu hx1) ⟨C, dx, [], hc, upd_same, .nil⟩ (by rw [upd_same]; simp) (fun o u e => by rw [upd_same] at e; cases e), ?_⟩
  exact (Frm.lay hd).trans (Frm.layS hx1)
theorem run_new (cx : CxOk X W n Wx) {c f : Nat} (hi : W.T.init c = some f) {C : Addr} (hC : W.cls c = some C) (M : Mk W.K C (W.ad f)) {us : List Value} {vs : List V} {ds : List D} (I : Inv X pins σ H s) (r : Vals vs us) (si : SI W g0 H0 env st g σ H) (rv : RVs g vs ds)
    (af : Aft W g0 H0 Wx env σ g (newO W.T (callN W.T n) c ds st) (Val Q)) : wpAny (model X.prog X.w) X.A (call (.ref C) us) (EP X pins σ Q) X.xe s := by
  have hx := I.hok.fresh (Nat.le_succ s.heap.objs.size)
  have hd := I.hok.fresh (Nat.le_refl s.heap.objs.size)
  have ne : s.heap.objs.size ≠ s.heap.objs.size + 1 := Nat.ne_of_lt (Nat.lt_succ_self _)
  obtain ⟨hs2, fr2⟩ := new_hs si.hs hC hx hd ne
  have si2 := si.next hs2 fr2
  have hself : RV (g.addS (s.heap.objs.size + 1)) (.ref (s.heap.objs.size + 1)) (.ref st.length) := addS_at si.hs
  unfold newO at af
  rw [hi] at af
  have ac : AftC W (g.addS (s.heap.objs.size + 1)) (upd (upd H s.heap.objs.size (.own (s.heap.objs.size + 1))) (s.heap.objs.size + 1) (.ins C s.heap.objs.size [])) (callN W.T n f (.ref st.length :: ds) (st ++ [.ins c []]))
      (fun v H2 => v = .non ∧ Q (.ref (s.heap.objs.size + 1)) H2) (WE Wx σ) := by
    refine aftC_of si2 ?_
    have af2 := (Aft.bind (r := callN W.T n f (.ref st.length :: ds) (st ++ [.ins c []])) af).up fr2.le
    refine af2.imp fun d st3 g3 H3 l3 si3 af3 v rv3 => ?_
    cases d with
    | non => exact ⟨rv3.non_inv, fin0 si3 af3 (hself.mono l3)⟩
    | _ => exact af3.elim
  obtain ⟨fd, hfd, _⟩ := fn_some ac
  obtain ⟨F, hb⟩ := cx.fns f fd hfd
  have I2 := Inv.made (C := C) I
  have r2 : Vals (V.ref (s.heap.objs.size + 1) :: vs) (Value.ref (s.heap.objs.size + 1) :: us) := .cons rfl r
  have hsp : sp W n f (V.ref (s.heap.objs.size + 1) :: vs) _ (fun v H2 => v = .non ∧ Q (.ref (s.heap.objs.size + 1)) H2) (WE Wx σ) := ⟨_, _, _, hs2, .cons hself (rv.mono fr2.le), ac⟩
  have hl : (Value.ref (s.heap.objs.size + 1) :: us).length = (W.ps f).length := by rw [← r2.length]; exact F.len _ _ _ _ hsp
  have b := hb _ (Value.ref (s.heap.objs.size + 1) :: us) I2.kIn (by rw [List.append_nil]; exact hl)
  rw [List.append_nil] at b
  rw [← cx.xw.K] at M
  have hr : Room (3 * n + 3) (X.A.under (.builtin "type.__call__" ⟨.ref C :: us, []⟩)) := (cx.room.mono (j := 3 * n + 3 + 1) (by omega)).make C us []
  have body := F.run (X.A.under (.builtin "type.__call__" ⟨.ref C :: us, []⟩)) X.stack _ _ ⟨Value.ref (s.heap.objs.size + 1) :: us, []⟩ _ _ _ (WE Wx σ) hr (I2.env0.make C us []) b r2 hsp
  refine wpAny_call (make_map (f := W.ad f) I.kIn M.makes M.init (beq_iff_eq.mp M.fn) (codeAny_mono body fun r s' hq => ?_))
  cases r with
  | error e => exact L2N.passAt cx.tk σ pins _ _ e s' I2 hq
  | ok fl =>
    cases fl with
    | ret u =>
      obtain ⟨v, H', I3, rv3, ev, q3⟩ := I2.after hq
      subst ev
      exact ⟨rv3, V.ref (s.heap.objs.size + 1), H', I3, rfl, q3⟩
    | next => exact hq.elim
    | brk => exact hq.elim
    | cont => exact hq.elim
variable {a : E} {ea : Expr} {es : As} {l : List Expr} {pos p apos : Pos} {x : Str}
theorem newO_init {c : Nat} {ds : List D} (af : Aft W g0 H0 Wx env σ g (newO W.T (callN W.T n) c ds st) (Val Q)) : ∃ f, W.T.init c = some f := by
  unfold newO at af
  cases h : W.T.init c with
  | none => rw [h] at af; exact af.elim
  | some f => exact ⟨f, rfl⟩
/-- C(..) -/
theorem cf_new (cx : CxOk X W n Wx) {c f : Nat} (hi : W.T.init c = some f) (hg : Gl X (W.cn c)) (hdb : (W.cn c == ("__debug__" : Str)) = false) {e : Expr} {es' : List Expr} (ha : PA X (e :: es') (tMA W g0 H0 Wx (evs W.T (callN W.T n) es)))
    (he : starEach (e :: es') X.env = (false, eval e X.env) :: starEach es' X.env) (hpl : (backTo pos (starEach es' X.env)).any (·.1) = false) : PE X (.Call (.Name (W.cn c) p) (e :: es') [] pos) (tM W g0 H0 Wx (ev W.T (callN W.T n) (.new c es))) := by
  obtain ⟨C, hC, M, hm⟩ := cx.wok.mkc c f hi
  refine ⟨fun pins s σ H Q I ⟨env, st, g, si, af⟩ => ?_⟩
  simp only [ev] at af
  refine wpAny_Call_Name_kw (ld_glob I hg (by rw [cx.xw.mg]; exact hm) ?_ hdb)
  refine PySem.W.callWith_K (h₀ := X.base) I.ok.mod.kin (by rw [cx.xw.K]; exact M.kp) (thn (ha.run pos pins s σ H (fun vs H1 => ∃ ds st1 g1, SI W g0 H0 env st1 g1 σ H1 ∧ RVs g1 vs ds ∧ Aft W g0 H0 Wx env σ g1 (newO W.T (callN W.T n) c ds st1) (Val Q)) I
    ⟨env, st, g, si, af.bind.imp fun ds st1 g1 H1 l1 si1 af1 vs rvs => ⟨ds, st1, g1, si1, rvs, af1⟩⟩) fun us s1 ⟨vs, H1, I1, r, ds, st1, g1, si1, rvs, af1⟩ => ⟨I1.kIn, run_new cx hi hC M I1 r si1 rvs af1⟩) he hpl
/-! ### built-in functions by their names -/
theorem imp_prim {p : Pr} {σ : St} {H : Hp} (h : tM W g0 H0 Wx (fun env s => (evTs W.T (callN W.T n) es env s).bind fun ds s => R.of (prim s p ds) s) σ H Q) : tCB (rPrim W g0 H0 Wx p) (tMAT W g0 H0 Wx (evTs W.T (callN W.T n) es)) σ H Q :=
  let ⟨env, st, g, si, af⟩ := h
  ⟨env, st, g, si, af.bind.imp fun ds st1 g1 H1 l1 si1 af1 vs rvs => ⟨env, σ, st1, g1, ds, si1, rvs, af1.nw⟩⟩
theorem imp_primF {p : Pr} {σ : St} {H : Hp} (h : tMF W g0 H0 Wx (fun env s => (evTs W.T (callN W.T n) es env s).bind fun ds s => R.of (prim s p ds) s) σ H Q) : tCB (rPrim W g0 H0 Wx p) (tMAT W g0 H0 Wx (evTs W.T (callN W.T n) es)) σ H Q :=
  let ⟨env, st, g, si, af⟩ := h
  ⟨env, st, g, si, af.bind.imp fun ds st1 g1 H1 l1 si1 af1 vs rvs => ⟨env, σ, st1, g1, ds, si1, rvs, af1⟩⟩
/-- the plain ones -/
inductive PF where
  | b (id : String) | t (id : String)
def primF : Pr → Option (Str × PF)
  | .len => some ("len", .b "len")
  | .list => some ("list", .t "list")
  | .tuple => some ("tuple", .t "tuple")
  | .sorted => some ("sorted", .b "sorted")
  | .dictOf => some ("dict", .t "dict")
  | .sum => some ("sum", .b "sum")
  | .max => some ("max", .b "max")
  | .min2 => some ("min", .b "min")
  | .abs => some ("abs", .b "abs")
  | .int => some ("int", .t "int")
  | .str => some ("str", .t "str")
  | .all => some ("all", .b "all")
  | .any => some ("any", .b "any")
  | _ => none
def pfV : PF → Value
  | .b id => .builtin id
  | .t id => .type id
theorem prim_boot {p : Pr} {x : Str} {f : PF} (h : primF p = some (x, f)) : bootBuiltins x = some (pfV f) ∧ x ≠ "__name__" ∧ (x == ("__debug__" : Str)) = false := by
  cases p <;> simp only [primF] at h <;> cases h <;> exact ⟨by decide +kernel, by decide +kernel, by decide +kernel⟩
theorem cr_prim (xw : XW X W) (hc : X.calm = true) {p : Pr} {x : Str} {f : PF} (h : primF p = some (x, f)) : CallR X (pfV f) (rPrim W g0 H0 Wx p) := by
  cases p <;> simp only [primF] at h <;> cases h
  · exact cr_len xw
  · exact cr_list xw hc
  · exact cr_tuple xw
  · exact cr_sortedD xw hc
  · exact cr_dictOf xw hc
  · exact cr_sumP xw hc
  · exact cr_maxP xw hc
  · exact cr_min2 xw hc
  · exact cr_abs xw
  · exact cr_int xw
  · exact cr_str xw
  · exact cr_allP xw hc
  · exact cr_anyP xw hc
theorem pe_prim (xw : XW X W) (hc : X.calm = true) {pr : Pr} {f : PF} (h : primF pr = some (x, f)) (hg : Gl X x) (hm : X.mg x = none) {e : Expr} {es' : List Expr} {t : TA} (ha : PA X (e :: es') t)
    (he : starEach (e :: es') X.env = (false, eval e X.env) :: starEach es' X.env) (hpl : (backTo pos (starEach es' X.env)).any (·.1) = false) : PE X (.Call (.Name x p) (e :: es') [] pos) (tCB (rPrim W g0 H0 Wx pr) t) := by
  obtain ⟨h1, h2, h3⟩ := prim_boot h
  have hcr := cr_prim (g0 := g0) (H0 := H0) (Wx := Wx) xw hc h
  cases f with
  | b id => exact pe_callB hcr hg hm h1 ha h2 h3 he hpl
  | t id => exact pe_callTy hcr hg hm h1 ha h2 h3 he hpl
/-- as what makes something new -/
theorem cf_prF (xw : XW X W) (hc : X.calm = true) {pr : Pr} {f : PF} (h : primF pr = some (x, f)) (hg : Gl X x) (hm : X.mg x = none) {e : Expr} {es' : List Expr} (ha : PA X (e :: es') (tMAT W g0 H0 Wx (evTs W.T (callN W.T n) es)))
    (he : starEach (e :: es') X.env = (false, eval e X.env) :: starEach es' X.env) (hpl : (backTo pos (starEach es' X.env)).any (·.1) = false) : PE X (.Call (.Name x p) (e :: es') [] pos) (tMF W g0 H0 Wx (evF W.T (callN W.T n) (.pr pr es))) :=
  (pe_prim xw hc h hg hm ha he hpl).imp' fun σ H Q h => imp_primF (by
    have e : evF W.T (callN W.T n) (.pr pr es) = fun env s => (evTs W.T (callN W.T n) es env s).bind fun ds s => R.of (prim s pr ds) s := by funext env s; simp only [evF]
    rw [e] at h; exact h)
/-- as a value; len of an own class stands elsewhere -/
theorem prmR_not {p : Pr} {ds : List D} (h : p ≠ .len) : prmR W.T (callN W.T n) p ds st = R.of (prim st p ds) st := by
  unfold prmR
  split
  · exact absurd rfl h
  · rfl
theorem cf_prm (xw : XW X W) (hc : X.calm = true) {pr : Pr} {f : PF} (h : primF pr = some (x, f)) (hne : pr ≠ .len) (hg : Gl X x) (hm : X.mg x = none) {e : Expr} {es' : List Expr} (ha : PA X (e :: es') (tMAT W g0 H0 Wx (evTs W.T (callN W.T n) es)))
    (he : starEach (e :: es') X.env = (false, eval e X.env) :: starEach es' X.env) (hpl : (backTo pos (starEach es' X.env)).any (·.1) = false) : PE X (.Call (.Name x p) (e :: es') [] pos) (tM W g0 H0 Wx (ev W.T (callN W.T n) (.prm pr es))) :=
  (pe_prim xw hc h hg hm ha he hpl).imp' fun σ H Q h => imp_prim (by
    have e : ev W.T (callN W.T n) (.prm pr es) = fun env s => (evTs W.T (callN W.T n) es env s).bind fun ds s => R.of (prim s pr ds) s := by funext env s; simp only [ev, prmR_not hne]
    rw [e] at h; exact h)
end
end CF
/-! CFEqD -/
/-! Dicts of the store, equal or not. -/
namespace CF
open PySem L2
section
variable {X : Cx} {W : Wld} {g0 : Gh} {H0 : Hp} {Wx : WX} {env : Env} {σ σ' : St} {st : Sto} {g : Gh} {H : Hp} {pins : List (Addr × Obj)} {s : Shared} {a b : Addr} {ua ub : HO} {l k : List (D × D)}
variable {A : Around} {E : Value → Shared → Prop}
/-- two dicts of unlike sizes -/
theorem ne_sizes {oa ob : Obj} {es es' : Array DictEntry} {ep ep' : Nat} {Q : Value → Shared → Prop} (ha : (a == sysModules) = false) (hb : (b == sysModules) = false) (hoa : s.heap.get? a = some oa) (xa : oa.ExactDict) (da : oa.data = .dict es ep)
    (hob : s.heap.get? b = some ob) (xb : ob.ExactDict) (db : ob.data = .dict es' ep') (hsz : es.size ≠ es'.size) (hu : A.units < cLine) (h : Q (.bool false) s) : wpAny (model X.prog X.w) A (compareOp .Eq (.ref a) (.ref b)) Q E s := by
  have ta : s.TypeIs (.ref a) "dict" := ⟨oa, hoa, xa.1⟩
  have tb : s.TypeIs (.ref b) "dict" := ⟨ob, hob, xb.1⟩
  have ne : (es.size != es'.size) = true := by simpa using hsz
  refine wpAny_richCompare_same_room (op := .Eq) ta tb PySem.F.slot_dict_eq (wpAny_call_entry PySem.F.slot_dict_eq ta PySem.F.entry_dict_eq ?_ (PySem.F.args_dict_eq_2 _ _)) hu
  change wpAny _ _ (Builtin.Dict.dictSlotArgs "__eq__" ⟨[.ref a, .ref b], []⟩ >>= _) _ _ s
  unfold Builtin.Dict.dictSlotArgs
  refine wpAny_bind (wpAny_bind (wpAny_notOrdered_dict ta (wpAny_pure (wpAny_bind (wpAny_isInstance (T := "dict") tb PySem.F.sub_dict_dict ?_)))))
  simp only [Bool.not_true, Bool.false_eq_true, if_false]
  refine wpAny_bind (wpAny_pure (wpAny_bind (wpAny_pure (wpAny_bind ?_))))
  simp only [Builtin.Dict.samePairs, Builtin.Dict.showsAll]
  rw [if_neg (by rw [ha]; decide), if_neg (by rw [hb]; decide)]
  refine wpAny_bind (wpAny_pure (wpAny_bind (wpAny_pure (wpAny_bind (wpAny_dictEntries hoa da (wpAny_bind (wpAny_dictEntries hob db ?_)))))))
  rw [if_pos ne]
  exact wpAny_bind (wpAny_rule (wpAny_pure (wpAny_pure ⟨_, rfl, (fun x => nomatch x), h⟩)))
theorem dk_raw {kvs : List (Key × V)} (I : Inv X pins σ' H s) (rd : Rd H a (.dK kvs)) : (a == sysModules) = false ∧ ∃ o es ep, s.heap.get? a = some o ∧ o.ExactDict ∧ o.data = .dict es ep ∧ es.size = kvs.length := by
  obtain ⟨_, hd, vs, rel, o, es, ep, h1, h2, h3, _, h5, _⟩ := dk_rd I.hok rd
  refine ⟨hd, o, es, ep, h1, h2, h3, ?_⟩
  have e1 := h5.length
  have e2 : kvs.length = vs.length := Paired.length rel
  rw [Array.length_toList] at e1
  omega
theorem dct_raw (I : Inv X pins σ' H s) (hP : X.prog = W.P) (hw : X.w = W.w) (rd : Rd H a ua) (dd : DctD W g a ua l) : (a == sysModules) = false ∧ ∃ o es ep, s.heap.get? a = some o ∧ o.ExactDict ∧ o.data = .dict es ep ∧ es.size = l.length := by
  rcases dd with ⟨kvs, e, p, _⟩ | ⟨xs, e, p, _, hs, _, _⟩
  · subst e
    obtain ⟨h1, o, es, ep, h2, h3, h4, h5⟩ := dk_raw I rd
    exact ⟨h1, o, es, ep, h2, h3, h4, h5.trans (pairedLen p)⟩
  · subst e
    obtain ⟨o, es, ep, h1, h2, h3, h4⟩ := (rd_of I.hok rd).1
    refine ⟨hs, o, es, ep, h1, h2, h3, ?_⟩
    have := congrArg List.length h4
    rw [Array.length_toList, List.length_map] at this
    exact this.trans (pairedLen p)
/-- a dict beside {} -/
theorem eq_de {Q : Value → Shared → Prop} (hP : X.prog = W.P) (hw : X.w = W.w) (hu : A.units < cLine) (I : Inv X pins σ' H s) (ra : Rd H a ua) (da : DctD W g a ua l) (rb : Rd H b ub) (db : DctD W g b ub []) (h : Q (.bool l.isEmpty) s) : wpAny (model X.prog X.w) A (compareOp .Eq (.ref a) (.ref b)) Q E s := by
  have hub : ub = .dK [] := by
    rcases db with ⟨kvs, e, p, _⟩ | ⟨xs, _, p, _, _, _, hx⟩
    · cases p
      exact e
    · cases p
      exact absurd rfl hx
  subst hub
  cases l with
  | cons c r =>
    obtain ⟨h1, oa, es, ep, h2, h3, h4, h5⟩ := dct_raw I hP hw ra da
    obtain ⟨k1, ob, es', ep', k2, k3, k4, k5⟩ := dk_raw I rb
    exact ne_sizes h1 k1 h2 h3 h4 k2 k3 k4 (by rw [h5, k5]; simp) hu h
  | nil =>
    have hua : ua = .dK [] := by
      rcases da with ⟨kvs, e, p, _⟩ | ⟨xs, _, p, _, _, _, hx⟩
      · cases p
        exact e
      · cases p
        exact absurd rfl hx
    subst hua
    obtain ⟨_, ha, vs, rel, dd⟩ := dk_rd I.hok ra
    obtain ⟨_, hb, ws, rel2, dd2⟩ := dk_rd I.hok rb
    cases rel
    cases rel2
    exact PySem.W.keq_eq (r := true) ha hb dd dd2 hu (fun _ => .nil) h
/-- what is found of a key, on both sides -/
theorem hits_of (hK : X.K = W.K) (ok : W.Ok0) (si : SI W g0 H0 env st g σ H) (I : Inv X pins σ' H s) (hu : A.units + 64 < cLine) {kvs2 : List (Key × V)} {ws : List (Key × Value)} (p2 : PK g kvs2 k) (rel2 : KV kvs2 ws) (ek : k.all (fun p => isStr p.1 && layN LV p.2) = true) :
    ∀ {l : List (D × D)} {kvs : List (Key × V)} {vs : List (Key × Value)}, PK g kvs l → KV kvs vs → l.all (fun p => isStr p.1 && layN LV p.2) = true →
    PySem.W.KeqHits A s ws vs (l.all fun p => match findK p.1 k with | some w => eqD p.2 w | none => false)
  | [], _, _, .nil, .nil, _ => .nil
  | (kd, d) :: l, (kk, v) :: kvs, (kk', u) :: vs, .cons ⟨⟨w, e1, e2, _⟩, r⟩ t, .cons ⟨q1, q2⟩ t2, hl => by
    have e1 : kd = .str w := e1
    have e2 : kk = Sum.inr (toS w) := e2
    have q1 : kk = kk' := q1
    subst e1 e2 q1
    simp only [List.all_cons, Bool.and_eq_true] at hl
    have ih := hits_of hK ok si I hu p2 rel2 ek t t2 hl.2
    rw [List.all_cons]
    rcases pk_find (w := w) p2 with ⟨v2, d2, h1, h2, r2⟩ | ⟨h1, h2⟩
    · rw [h2]
      simp only
      have rv := rel2.val (Sum.inr (toS w))
      rw [h1] at rv
      obtain ⟨y, hy, ry⟩ := rv.some_of
      refine .hit hy ?_ ih
      have hd2 : layN LV d2 = true := by
        have : ∀ {k : List (D × D)}, k.all (fun p => isStr p.1 && layN LV p.2) = true → findK (.str w) k = some d2 → layN LV d2 = true := fun {k} => by
          induction k with
          | nil => intro _ h; cases h
          | cons c k ih =>
            intro hk hf
            simp only [List.all_cons, Bool.and_eq_true] at hk
            simp only [findK] at hf
            split at hf
            · cases hf
              exact hk.1.2
            · exact ih hk.2 hf
        exact this ek h2
      obtain ⟨p1, c1⟩ := dp_of hK ok si LV d v hl.1.2 r
      obtain ⟨p3, c2⟩ := dp_of hK ok si LV d2 v2 hd2 r2
      obtain ⟨as, z1⟩ := Dp.reads I _ v u p1 q2
      obtain ⟨bs, z2⟩ := Dp.reads I _ v2 y p3 ry
      have hdep := dep_le LV d hl.1.2
      rw [← eqv_eq LV LV d d2 hl.1.2 hd2]
      exact SeqAt.eqAt_plain _ _ A s u y as bs z1 z2 (PyData.plain_of_canLay0 _ c1) (PyData.plain_of_canLay0 _ c2) (by
        have : min (toPy d).depth (toPy d2).depth ≤ (toPy d).depth := Nat.min_le_left _ _
        have : LV = 60 := rfl
        omega)
    · rw [h2]
      simp only [Bool.false_and]
      have rv := rel2.val (Sum.inr (toS w))
      rw [h1] at rv
      exact .miss rv.none_of
/-- two dicts with texts for keys -/
theorem eq_dd {Q : Value → Shared → Prop} (hK : X.K = W.K) (ok : W.Ok0) (si : SI W g0 H0 env st g σ H) (hu : A.units + 66 < cLine) (I : Inv X pins σ' H s) (ra : Rd H a ua) (da : DctD W g a ua l) (rb : Rd H b ub) (db : DctD W g b ub k) (el : eqdOk l = true) (ek : eqdOk k = true) (h : Q (.bool (eqDct l k)) s) :
    wpAny (model X.prog X.w) A (compareOp .Eq (.ref a) (.ref b)) Q E s := by
  have str : ∀ {l : List (D × D)}, eqdOk l = true → l.all (fun p => isStr p.1) = true := fun {l} h => by
    unfold eqdOk at h
    rw [List.all_eq_true] at h ⊢
    intro p hp
    have := h p hp
    simp only [Bool.and_eq_true] at this
    exact this.1
  rcases da with ⟨kvs, e1, p1, n1⟩ | ⟨xs, _, p, _, _, _, hx⟩
  · rcases db with ⟨kvs2, e2, p2, n2⟩ | ⟨xs, _, p, _, _, _, hx⟩
    · subst e1 e2
      obtain ⟨_, ha, vs, rel, dd⟩ := dk_rd I.hok ra
      obtain ⟨_, hb, ws, rel2, dd2⟩ := dk_rd I.hok rb
      refine PySem.W.keq_eq ha hb dd dd2 (by omega) (fun _ => hits_of (A := A.in1) hK ok si I (by show A.units + 1 + 64 < cLine; omega) p2 rel2 ek p1 rel el) ?_
      have e1 : vs.length = l.length := (Paired.length rel).symm.trans (pairedLen p1)
      have e2 : ws.length = k.length := (Paired.length rel2).symm.trans (pairedLen p2)
      rw [e1, e2]
      exact h
    · exact absurd (pt_tup p (str ek)) hx
  · exact absurd (pt_tup p (str el)) hx
end
end CF
/-! CFEqO -/
/-! == of instances, by their own method. -/
namespace CF
open PySem PySem.Spec L2
def rCmpO (W : Wld) (n : Nat) (g0 : Gh) (H0 : Hp) (Wx : WX) (op : Cm) : R2 := fun x y H Q => ∃ env σ st g d1 d2, SI W g0 H0 env st g σ H ∧ RT W g H0 env σ x d1 ∧ RT W g H0 env σ y d2 ∧ Aft W g0 H0 Wx env σ g (cmpR W.T (callN W.T n) op d1 d2 st) (Val Q)
section
variable {X : Cx} {W : Wld} {n : Nat} {g0 : Gh} {H0 : Hp} {Wx : WX}
theorem eqO_inv {T : Tab} {C : CallF} {st : Sto} {a b : D} (h : eqO T C st a b ≠ .bad) : ∃ k c fs f r s', a = .ref k ∧ insAt st k = some (c, fs) ∧ ((∃ m gs, b = .ref m ∧ insAt st m = some (c, gs)) ∨ ∃ l, b = .tup l) ∧ T.eqm c = some f ∧ C f [a, b] st = .ok (.bl r) s' ∧ eqO T C st a b = .ok (.bl r) s' := by
  cases a with
  | ref k =>
    cases b with
    | ref m =>
      unfold eqO at h ⊢
      simp only at h ⊢
      cases e1 : insAt st k with
      | none => rw [e1] at h; exact absurd rfl h
      | some p =>
        obtain ⟨c, fs⟩ := p
        rw [e1] at h
        cases e2 : insAt st m with
        | none => rw [e2] at h; exact absurd rfl h
        | some q =>
          obtain ⟨c', gs⟩ := q
          rw [e2] at h
          simp only at h ⊢
          by_cases ec : c = c'
          · subst ec
            rw [if_pos rfl] at h ⊢
            cases e3 : T.eqm c with
            | none => rw [e3] at h; exact absurd rfl h
            | some f =>
              rw [e3] at h
              simp only at h ⊢
              cases e4 : C f [.ref k, .ref m] st with
              | ok d s' =>
                rw [e4] at h
                cases d with
                | bl r => exact ⟨k, c, fs, f, r, s', rfl, e1, .inl ⟨m, gs, rfl, e2⟩, e3, e4, rfl⟩
                | _ => exact absurd rfl h
              | exc c2 fs2 s2 => rw [e4] at h; exact absurd rfl h
              | bad => rw [e4] at h; exact absurd rfl h
          · rw [if_neg ec] at h; exact absurd rfl h
    | tup l =>
      unfold eqO at h ⊢
      simp only at h ⊢
      cases e1 : insAt st k with
      | none => rw [e1] at h; exact absurd rfl h
      | some p =>
        obtain ⟨c, fs⟩ := p
        rw [e1] at h
        simp only at h ⊢
        cases e3 : T.eqm c with
        | none => rw [e3] at h; exact absurd rfl h
        | some f =>
          rw [e3] at h
          simp only at h ⊢
          cases e4 : C f [.ref k, .tup l] st with
          | ok d s' =>
            rw [e4] at h
            cases d with
            | bl r => exact ⟨k, c, fs, f, r, s', rfl, e1, .inr ⟨l, rfl⟩, e3, e4, rfl⟩
            | _ => exact absurd rfl h
          | exc c2 fs2 s2 => rw [e4] at h; exact absurd rfl h
          | bad => rw [e4] at h; exact absurd rfl h
    | _ => exact absurd rfl h
  | _ => exact absurd rfl h
/-- == and the like, but for own methods -/
def rCmpR (W : Wld) (g0 : Gh) (H0 : Hp) (Wx : WX) (op : Cm) : V → V → Hp → VK → Prop := fun x y H Q => ∃ env σ st g d1 d2, SI W g0 H0 env st g σ H ∧ RT W g H0 env σ x d1 ∧ RT W g H0 env σ y d2 ∧
  Aft W g0 H0 Wx env σ g (match refE st op d1 d2 with
    | some r => .ok (.bl r) st
    | none => (R.of (opCmp st op d1 d2) st).bind fun b s => .ok (.bl b) s) (Val Q)
theorem op_cmpR (xw : XW X W) (op : Cm) : OpR X (compareOp (opC op)) (rCmpR W g0 H0 Wx op) := by
    intro pins s σ' H x y v u Q I rx ry ⟨env, σ, st, g, d1, d2, si, r1, r2, af⟩
    cases q : refE st op d1 d2 with
    | some r =>
      rw [q] at af
      have hroom := xw.room
      have fin : Q (.bl r) H := af g H (.refl g) si (.bl r) rfl
      clear af
      unfold refE at q
      split at q
      · rename_i k
        split at q
        · rename_i ho
          subst ho
          cases hl : lstAt st k with
          | none => rw [hl] at q; cases q
          | some l =>
            rw [hl] at q
            cases q
            obtain ⟨a, vs, e1, s1, p1⟩ := si.slst (si.refT r1) hl
            obtain ⟨b, ws, e2, s2, p2⟩ := si.lstT xw.ok r2
            subst e1 e2
            cases rx
            cases ry
            have er : l.isEmpty = (l.isEmpty && ([] : List D).isEmpty) := by simp
            exact (eq_ll (Nat.lt_of_le_of_lt (by omega) xw.room) I s1 s2 p1 p2 (.inr rfl)).1 (by rw [← er]; exact fin)
        · cases q
      · rename_i k
        split at q
        · rename_i ho
          subst ho
          cases hl : dctAt st k with
          | none => rw [hl] at q; cases q
          | some l =>
            rw [hl] at q
            cases q
            obtain ⟨a, ua, e1, s1, p1⟩ := si.sdct (si.refT r1) hl
            obtain ⟨b, ub, e2, s2, p2⟩ := si.dctT xw.ok r2
            subst e1 e2
            cases rx
            cases ry
            exact eq_de xw.P xw.w (by omega) I s1 p1 s2 p2 ⟨.bl _, H, I, rfl, fin⟩
        · cases q
      · rename_i k m
        split at q
        · rename_i ho
          subst ho
          cases hl : dctAt st k with
          | none => rw [hl] at q; cases q
          | some l =>
            cases hm : dctAt st m with
            | none => rw [hl, hm] at q; cases q
            | some l2 =>
              rw [hl, hm] at q
              simp only [Option.bind_some] at q
              split at q
              · rename_i hk
                cases q
                simp only [Bool.and_eq_true] at hk
                obtain ⟨a, ua, e1, s1, p1⟩ := si.sdct (si.refT r1) hl
                obtain ⟨b, ub, e2, s2, p2⟩ := si.sdct (si.refT r2) hm
                subst e1 e2
                cases rx
                cases ry
                exact eq_dd xw.K xw.ok si (by omega) I s1 p1 s2 p2 hk.1 hk.2 ⟨.bl _, H, I, rfl, fin⟩
              · cases q
        · cases q
      · cases q
    | none =>
      rw [q] at af
      exact op_cmp xw op pins s σ' H x y v u Q I rx ry ⟨env, σ, st, g, d1, d2, si, r1, r2, af⟩
theorem op_cmpO (cx : CxOk X W n Wx) (op : Cm) : OpR X (compareOp (opC op)) (rCmpO W n g0 H0 Wx op) := by
  intro pins s σ' H x y v u Q I rx ry ⟨env, σ, st, g, d1, d2, si, r1, r2, af⟩
  unfold cmpR at af
  split at af
  · rename_i h
    obtain ⟨rfl, _⟩ := h
    have hb : eqO W.T (callN W.T n) st d1 d2 ≠ .bad := fun e => by rw [e] at af; exact af.elim
    obtain ⟨k, c, fs, f, r, s', rfl, e1, e2, e3, e4, e5⟩ := eqO_inv hb
    rw [e5] at af
    have v1 := si.flat r1 (fun _ e => by cases e) (fun _ e => by cases e)
    obtain ⟨a, C, dx, vs, rfl, _, _, hC, ha, _⟩ := si.ins v1 e1
    cases rx
    obtain ⟨mA, J, _⟩ := ins_get I.hok ha
    obtain ⟨od, J, _⟩ := J.look
    obtain ⟨mm, hF⟩ := I.fr
    obtain ⟨hs, hf⟩ := cx.wok.eq c C f hC e3
    have ac : AftC W g H (callN W.T n f [.ref k, d2] st) (fun z H' => ∃ t, z = .bl t ∧ Q (.bl t) H') (WE Wx σ') := by
      rw [e4]
      intro g' H' hs fr z rv
      have hz := rv.bl_inv
      subst hz
      exact ⟨r, rfl, af g' H' fr.le (si.next hs fr) (.bl r) rv⟩
    obtain ⟨fd, hfd, _⟩ := fn_some ac
    obtain ⟨F, hbd⟩ := cx.fns f fd hfd
    have fin : ∀ {b : Addr} {tb : Value}, RelV y (.ref b) → u = .ref b → RV g y d2 → PySem.W.Looks (model X.prog X.w) s.heap (typeOf (.ref b)) tb → PySem.W.notFirst X.K C tb = true →
        wpAny (model X.prog X.w) X.A (richCompare .Eq (.ref a) (.ref b)) (EP X pins σ' Q) X.xe s := fun {b tb} hy hu v2 J' nf => by
      refine PySem.W.cmp_K (op := .Eq) (tb := tb) cx.room.units0 hF I.ok.mod.kin J J' nf (by rw [cx.xw.K]; exact hs) (by rw [cx.xw.K]; exact hf) ?_
      have rr : Vals [V.ref a, y] [Value.ref a, Value.ref b] := .cons rfl (.cons hy .nil)
      have q := run_fnS F (cx.room.mono (by omega)) hbd (L2N.passAt cx.tk σ') I rr ⟨g, st, [.ref k, d2], si.hs, .cons v1 (.cons v2 .nil), ac⟩
      refine wpAny_mono q (fun w s2 h => ?_) fun _ _ e => e
      obtain ⟨z, H', I', rz, t, ez, hq⟩ := h
      subst ez
      cases rz
      exact ⟨.bl t, H', I', rfl, hq⟩
    rcases e2 with ⟨m, gs, rfl, e2⟩ | ⟨l, rfl⟩
    · have v2 := si.flat r2 (fun _ e => by cases e) (fun _ e => by cases e)
      obtain ⟨b, C', dy, ws, rfl, _, _, hC', hb', _⟩ := si.ins v2 e2
      have eC : C' = C := by rw [hC] at hC'; exact (Option.some.inj hC').symm
      subst eC
      cases ry
      obtain ⟨mB, J', _⟩ := ins_get I.hok hb'
      obtain ⟨od', J', _⟩ := J'.look
      exact fin rfl rfl v2 J'.type (by simp [PySem.W.notFirst])
    · have v2 := si.flat r2 (fun _ e => by cases e) (fun _ e => by cases e)
      obtain ⟨b, ws, rfl, sq, p⟩ := si.tupT cx.xw.ok r2
      cases ry
      obtain ⟨its, _, ⟨o, h1, h2, _⟩, _⟩ := I.tuple (a := b) (xs := ws) (by rw [cx.xw.K]; exact sq)
      refine fin rfl rfl v2 (tb := .type "tuple") (fun A Q E s k q => wpAny_typeOf_ref (k _ _ h1) (by rw [h2]; exact q)) ?_
      unfold PySem.W.notFirst
      rw [cx.xw.K, cx.wok.eqt c C f hC e3]
      rfl
  · rename_i hneg
    clear hneg
    exact op_cmpR cx.xw op pins s σ' H x y v u Q I rx ry ⟨env, σ, st, g, d1, d2, si, r1, r2, af⟩
variable {T : Tab} {a b : E} {ea eb : Expr} {pos : Pos}
theorem cf_cmpO (cx : CxOk X W n Wx) (op : Cm) (hm : behindInMarks (opC op) eb = false) (ha : PE X ea (tMT W g0 H0 Wx (evT W.T (callN W.T n) a))) (hb : PE X eb (tMT W g0 H0 Wx (evT W.T (callN W.T n) b))) : PE X (.Compare ea [opC op] [eb] pos) (tM W g0 H0 Wx (ev W.T (callN W.T n) (.cmp op a b))) :=
  (pe_cmpR (op_cmpO (g0 := g0) (H0 := H0) cx op) ha hb hm).imp' fun σ H Q ⟨env, st, g, si, af⟩ => by
    simp only [ev] at af
    exact ⟨env, st, g, si, af.bind.imp fun d1 st1 g1 H1 l1 si1 af1 x rx => ⟨env, st1, g1, si1, af1.bind.imp fun d2 st2 g2 H2 l2 si2 af2 y ry => ⟨env, σ, st2, g2, d1, d2, si2, rx.mono l2, ry, af2⟩⟩⟩
theorem ct_cmpO (cx : CxOk X W n Wx) (op : Cm) (hm : behindInMarks (opC op) eb = false) (ha : PE X ea (tMT W g0 H0 Wx (evT W.T (callN W.T n) a))) (hb : PE X eb (tMT W g0 H0 Wx (evT W.T (callN W.T n) b))) : PT X (.Compare ea [opC op] [eb] pos) (tMB W g0 H0 Wx (ev W.T (callN W.T n) (.cmp op a b))) :=
  (pt_cmpR (op_cmpO (g0 := g0) (H0 := H0) cx op) ha hb hm).imp' fun σ H Q h => by
    obtain ⟨env, st, g, si, af⟩ := tMB_tM h
    simp only [ev] at af
    exact ⟨env, st, g, si, af.bind.imp fun d1 st1 g1 H1 l1 si1 af1 x rx => ⟨env, st1, g1, si1, af1.bind.imp fun d2 st2 g2 H2 l2 si2 af2 y ry => ⟨env, σ, st2, g2, d1, d2, si2, rx.mono l2, ry, af2⟩⟩⟩
/-! ### len of instances, by their own method -/
def rLenO (W : Wld) (n : Nat) (g0 : Gh) (H0 : Hp) (Wx : WX) : List V → Hp → VK → Prop := fun xs H Q => ∃ env σ st g ds, SI W g0 H0 env st g σ H ∧ Paired (RT W g H0 env σ) xs ds ∧ Aft W g0 H0 Wx env σ g (prmR W.T (callN W.T n) .len ds st) (Val Q)
theorem lenO_inv {T : Tab} {C : CallF} {st : Sto} {a : D} (h : lenO T C st a ≠ .bad) : ∃ k c fs f i s', a = .ref k ∧ insAt st k = some (c, fs) ∧ T.lenm c = some f ∧ C f [a] st = .ok (.int i) s' ∧ 0 ≤ i ∧ i < 2 ^ 62 ∧ lenO T C st a = .ok (.int i) s' := by
  cases a with
  | ref k =>
    unfold lenO at h ⊢
    simp only at h ⊢
    cases e1 : insAt st k with
    | none => rw [e1] at h; exact absurd rfl h
    | some p =>
      obtain ⟨c, fs⟩ := p
      rw [e1] at h
      simp only at h ⊢
      cases e3 : T.lenm c with
      | none => rw [e3] at h; exact absurd rfl h
      | some f =>
        rw [e3] at h
        simp only at h ⊢
        cases e4 : C f [.ref k] st with
        | ok d s' =>
          rw [e4] at h
          cases d with
          | int i =>
            simp only at h ⊢
            by_cases hi : 0 ≤ i ∧ i < 2 ^ 62
            · exact ⟨k, c, fs, f, i, s', rfl, e1, e3, e4, hi.1, hi.2, if_pos hi⟩
            · rw [if_neg hi] at h; exact absurd rfl h
          | _ => exact absurd rfl h
        | exc c2 fs2 s2 => rw [e4] at h; exact absurd rfl h
        | bad => rw [e4] at h; exact absurd rfl h
  | _ => exact absurd rfl h
theorem cr_lenO (cx : CxOk X W n Wx) : CallR X (.builtin "len") (rLenO W n g0 H0 Wx) := by
  intro pins s σ' H xs us Q I rs ⟨env, σ, st, g, ds, si, rr, af⟩
  have other : Aft W g0 H0 Wx env σ g (R.of (prim st .len ds) st) (Val Q) → wpAny (model X.prog X.w) X.A (call (.builtin "len") us) (EP X pins σ' Q) X.xe s := fun af =>
    cr_prim (g0 := g0) (H0 := H0) (Wx := Wx) (x := "len") (f := .b "len") cx.xw cx.calm rfl pins s σ' H xs us Q I rs ⟨env, σ, st, g, ds, si, rr, af.nw⟩
  rcases ds with _ | ⟨d, _ | ⟨d2, dr⟩⟩
  · exact other af
  · have af : Aft W g0 H0 Wx env σ g (if isIns st d then lenO W.T (callN W.T n) st d else R.of (prim st .len [d]) st) (Val Q) := af
    split at af
    · have hb : lenO W.T (callN W.T n) st d ≠ .bad := fun e => by rw [e] at af; exact af.elim
      obtain ⟨k, c, fs, f, i, s', rfl, e1, e3, e4, hi0, hi1, e5⟩ := lenO_inv hb
      rw [e5] at af
      obtain ⟨x, ex, rx⟩ := p1 rr
      subst ex
      have v1 := si.flat rx (fun _ e => by cases e) (fun _ e => by cases e)
      obtain ⟨a, C, dx, vs, rfl, _, _, hC, ha, _⟩ := si.ins v1 e1
      obtain ⟨u, t, eu, ru, rt⟩ : ∃ u t, us = u :: t ∧ RelV (.ref a) u ∧ Vals [] t := by
        cases rs with
        | cons h t => exact ⟨_, _, rfl, h, t⟩
      cases rt
      subst eu
      cases (show u = Value.ref a from ru)
      obtain ⟨mA, J, _⟩ := ins_get I.hok ha
      obtain ⟨od, J, _⟩ := J.look
      obtain ⟨mm, hF⟩ := I.fr
      obtain ⟨hs, hf⟩ := cx.wok.len c C f hC e3
      refine PySem.W.len_K hF I.ok.mod.kin J (by rw [cx.xw.K]; exact hs) (by rw [cx.xw.K]; exact hf) ?_
      have ac : AftC W g H (callN W.T n f [.ref k] st) (fun z H' => z = .int i ∧ Q (.int i) H') (fun _ _ _ => False) := by
        rw [e4]
        intro g' H' hs fr z rv
        exact ⟨rv.int_inv, af g' H' fr.le (si.next hs fr) (.int i) (show i = i from rfl)⟩
      obtain ⟨fd, hfd, hnp⟩ := fn_some ac
      obtain ⟨F, hbd⟩ := cx.fns f fd hfd
      have hl : ([Value.ref a]).length = (W.ps f).length := F.len _ _ _ _ (show sp W n f [.ref a] H (fun z H' => z = .int i ∧ Q (.int i) H') (fun _ _ _ => False) from ⟨g, st, [.ref k], si.hs, .cons v1 .nil, ac⟩)
      have hb2 := hbd s [.ref a] I.kIn (by rw [List.append_nil]; exact hl)
      rw [List.append_nil] at hb2
      refine wpAny_call (codeAny_mono (F.run X.A.in1 X.stack s H ⟨[.ref a], []⟩ [.ref a] [.ref a] (fun z H' => z = .int i ∧ Q (.int i) H') (fun _ _ _ => False) (Room.in1 (cx.room.mono (by omega))) I.env0.in1 hb2 (.cons rfl .nil) ⟨g, st, [.ref k], si.hs, .cons v1 .nil, ac⟩) fun r s2 hq => ?_)
      cases r with
      | error er =>
        obtain ⟨_, _, _, _, _, _, _, _, _, _, _, _, hE⟩ := hq
        exact hE.elim
      | ok fl =>
        cases fl with
        | ret u =>
          obtain ⟨v, H', I3, rv, q3, q4⟩ := I.after hq
          subst q3
          obtain ⟨t, rfl⟩ := rv
          exact ⟨⟨hi0, Int.lt_trans hi1 (by decide)⟩, .int i, H', I3.tok _, ⟨_, rfl⟩, q4⟩
        | next => exact False.elim hq
        | brk => exact False.elim hq
        | cont => exact False.elim hq
    · exact other af
  · exact other af
theorem imp_len {es : As} {Q : VK} {σ : St} {H : Hp} (h : tM W g0 H0 Wx (ev W.T (callN W.T n) (.prm .len es)) σ H Q) : tCB (rLenO W n g0 H0 Wx) (tMAT W g0 H0 Wx (evTs W.T (callN W.T n) es)) σ H Q := by
  obtain ⟨env, st, g, si, af⟩ := h
  simp only [ev] at af
  exact ⟨env, st, g, si, af.bind.imp fun ds st1 g1 H1 l1 si1 af1 vs rvs => ⟨env, σ, st1, g1, ds, si1, rvs, af1⟩⟩
end
end CF
/-! CFIsi -/
/-! isinstance, len. -/
namespace CF
open PySem PySem.Spec L2
section
variable {X : Cx} {W : Wld} {n : Nat} {g0 : Gh} {H0 : Hp} {Wx : WX} {env : Env} {σ σ' : St} {st : Sto} {g : Gh} {H : Hp} {pins : List (Addr × Obj)} {s : Shared} {Q : VK} {x : V} {u : Value} {d : D}
/-- the type of data -/
def tyD : D → Option String
  | .non => some "NoneType"
  | .bl _ => some "bool"
  | .int _ => some "int"
  | .str _ => some "str"
  | .tup _ => some "tuple"
  | .lst _ => some "list"
  | .dct _ => some "dict"
  | _ => none
def Kit (X : Cx) (s : Shared) (u t : Value) : Prop := ∃ P : Heap → Prop, PySem.W.KitX X.K u t P ∧ P s.heap ∧ u ≠ .builtin "__main__.__loader__#opaque"
theorem kit_dct (I : Inv X pins σ' H s) {a : Addr} {uo : HO} {l : List (D × D)} (rd : Rd H a uo) (dd : DctD W g a uo l) : Kit X s (.ref a) (.type "dict") := by
  rcases dd with ⟨kvs, e, p, n⟩ | ⟨xs, e, p, n, _⟩
  · subst e
    obtain ⟨_, _, vs, _, o, es, ep, h1, h2, _⟩ := dk_rd I.hok rd
    exact ⟨_, PySem.W.kitx_dict, ⟨o, h1, h2.1⟩, fun z => nomatch z⟩
  · subst e
    obtain ⟨o, es, ep, h1, h2, _⟩ := rd_dto I rd
    exact ⟨_, PySem.W.kitx_dict, ⟨o, h1, h2.1⟩, fun z => nomatch z⟩
theorem kit_lst (I : Inv X pins σ' H s) {a : Addr} {vs : List V} (h : H a = some (.lst vs)) : Kit X s (.ref a) (.type "list") := by
  obtain ⟨_, its, n, _, _, e⟩ := I.lstM h
  exact ⟨_, PySem.W.kitx_list, ⟨_, e, rfl⟩, fun z => nomatch z⟩
theorem kit_d (xw : XW X W) (I : Inv X pins σ' H s) (rx : RelV x u) (si : SI W g0 H0 env st g σ H) (r : RT W g H0 env σ x d) {t : String} (ht : tyD d = some t) : Kit X s u (.type t) := by
  cases d with
  | non =>
    cases ht
    rw [(si.flat r (fun _ e => (by cases e)) fun _ e => (by cases e)).non_inv] at rx
    cases (show u = Value.none from rx)
    exact ⟨_, PySem.W.kitx_none, True.intro, fun z => nomatch z⟩
  | bl b =>
    cases ht
    rw [(si.flat r (fun _ e => (by cases e)) fun _ e => (by cases e)).bl_inv] at rx
    cases (show u = Value.bool b from rx)
    exact ⟨_, PySem.W.kitx_bool, True.intro, fun z => nomatch z⟩
  | int i =>
    cases ht
    rw [si.intT r] at rx
    obtain ⟨t, e⟩ := rx
    subst e
    exact ⟨_, PySem.W.kitx_int, True.intro, fun z => nomatch z⟩
  | str w =>
    cases ht
    rw [(si.strT r).1] at rx
    obtain ⟨t, e⟩ := rx
    subst e
    exact ⟨_, PySem.W.kitx_str, True.intro, fun z => nomatch z⟩
  | tup l =>
    cases ht
    obtain ⟨a, vs, ea, sq, p⟩ := si.tupT xw.ok r
    subst ea
    cases (show u = Value.ref a from rx)
    obtain ⟨its, _, ⟨o, h1, h2, _⟩, _⟩ := I.tuple (a := a) (xs := vs) (by rw [xw.K]; exact sq)
    exact ⟨_, PySem.W.kitx_tuple, ⟨o, h1, h2⟩, fun z => nomatch z⟩
  | lst l =>
    cases ht
    obtain ⟨a, vs, ea, sq, p⟩ := si.lstT xw.ok r
    subst ea
    cases (show u = Value.ref a from rx)
    exact kit_lst I sq
  | dct l =>
    cases ht
    obtain ⟨a, uo, ea, rd, dd⟩ := si.dctT xw.ok r
    subst ea
    cases (show u = Value.ref a from rx)
    exact kit_dct I rd dd
  | _ => cases ht
theorem kit_st (I : Inv X pins σ' H s) (rx : RelV x u) (si : SI W g0 H0 env st g σ H) {m : Nat} (r : RV g x (.ref m)) {o : SO} (e : st[m]? = some o) : (∀ l, o = .lst l → Kit X s u (.type "list")) ∧ (∀ l, o = .dct l → Kit X s u (.type "dict")) := by
  obtain ⟨a, ea, hm, hmu, so⟩ := si.at_ r e
  subst ea
  cases (show u = Value.ref a from rx)
  refine ⟨fun l eo => ?_, fun l eo => ?_⟩
  · subst eo
    obtain ⟨vs, h1, _⟩ := so
    exact kit_lst I h1
  · subst eo
    obtain ⟨uo, h1, h2⟩ := so
    exact kit_dct I (.of h1) h2
def tyN : Ty → Option String
  | .bool => some "bool"
  | .int => some "int"
  | .str => some "str"
  | .tuple => some "tuple"
  | .list => some "list"
  | .dict => some "dict"
  | .own _ => none
theorem kit_res {a : String} {t : Ty} {b : String} (hb : tyN t = some b) (ha : a ∈ ["NoneType", "bool", "int", "str", "tuple", "list", "dict"]) : PySem.W.kitOne X.K (.type a) (.type b) = some (decide (a = b) || (decide (a = "bool") && decide (b = "int"))) := by
  have all : ∀ a ∈ ["NoneType", "bool", "int", "str", "tuple", "list", "dict"], ∀ b ∈ ["bool", "int", "str", "tuple", "list", "dict"], kitB a b = some (decide (a = b) || (decide (a = "bool") && decide (b = "int"))) := by decide +kernel
  refine kit_ty (all a ha b ?_)
  cases t <;> cases hb <;> decide
theorem isi_go (I : Inv X pins σ' H s) {t c : Value} {b : Bool} (k : Kit X s u t) (e : PySem.W.kitOne X.K t c = some b) (q : Q (.bl b) H) : wpAny (model X.prog X.w) X.A (call (.builtin "isinstance") [u, c]) (EP X pins σ' Q) X.xe s := by
  obtain ⟨P, Z, p, hx⟩ := k
  exact PySem.W.kia_one Z I.kIn p e hx fun tk => ⟨.bl b, H, I.tok tk, rfl, q⟩
/-- isinstance with a built-in type -/
theorem isi_bt (xw : XW X W) (I : Inv X pins σ' H s) (rx : RelV x u) (si : SI W g0 H0 env st g σ H) (r : RT W g H0 env σ x d) {t : Ty} {b : String} (hb : tyN t = some b) {k : Bool} (e : isinst W.T st d t = some k) (q : Q (.bl k) H) :
    wpAny (model X.prog X.w) X.A (call (.builtin "isinstance") [u, .type b]) (EP X pins σ' Q) X.xe s := by
  have go : ∀ {a : String}, a ∈ ["NoneType", "bool", "int", "str", "tuple", "list", "dict"] → Kit X s u (.type a) → (decide (a = b) || (decide (a = "bool") && decide (b = "int"))) = k → wpAny (model X.prog X.w) X.A (call (.builtin "isinstance") [u, .type b]) (EP X pins σ' Q) X.xe s := fun {a} ha kk ek =>
    isi_go I kk (by rw [kit_res hb ha, ek]) q
  cases d with
  | ref m =>
    cases ho : st[m]? with
    | none => cases t <;> first | (simp [isinst, ho] at e; done) | (cases hb)
    | some o =>
      obtain ⟨h1, h2⟩ := kit_st I rx si (si.refT r) ho
      cases o with
      | lst l =>
        refine go (a := "list") (by decide) (h1 l rfl) ?_
        cases t <;> cases hb <;> simp [isinst, ho] at e <;> subst e <;> decide
      | dct l =>
        refine go (a := "dict") (by decide) (h2 l rfl) ?_
        cases t <;> cases hb <;> simp [isinst, ho] at e <;> subst e <;> decide
      | lck l => cases t <;> first | (simp [isinst, ho] at e; done) | (cases hb)
      | ins c fs => cases t <;> first | (simp [isinst, ho] at e; done) | (cases hb)
  | scr l => cases t <;> first | (simp [isinst] at e; done) | (cases hb)
  | non =>
    refine go (by decide) (kit_d xw I rx si r rfl) ?_
    cases t <;> cases hb <;> simp [isinst] at e <;> subst e <;> decide
  | bl _ =>
    refine go (by decide) (kit_d xw I rx si r rfl) ?_
    cases t <;> cases hb <;> simp [isinst] at e <;> subst e <;> decide
  | int _ =>
    refine go (by decide) (kit_d xw I rx si r rfl) ?_
    cases t <;> cases hb <;> simp [isinst] at e <;> subst e <;> decide
  | str _ =>
    refine go (by decide) (kit_d xw I rx si r rfl) ?_
    cases t <;> cases hb <;> simp [isinst] at e <;> subst e <;> decide
  | tup _ =>
    refine go (by decide) (kit_d xw I rx si r rfl) ?_
    cases t <;> cases hb <;> simp [isinst] at e <;> subst e <;> decide
  | lst _ =>
    refine go (by decide) (kit_d xw I rx si r rfl) ?_
    cases t <;> cases hb <;> simp [isinst] at e <;> subst e <;> decide
  | dct _ =>
    refine go (by decide) (kit_d xw I rx si r rfl) ?_
    cases t <;> cases hb <;> simp [isinst] at e <;> subst e <;> decide
/-- isinstance with an own class -/
theorem isi_own (cx : CxOk X W n Wx) (I : Inv X pins σ' H s) (rx : RelV x u) (si : SI W g0 H0 env st g σ H) (r : RT W g H0 env σ x d) {c : Nat} {C : Addr} (hC : W.cls c = some C) {k : Bool} (e : isinst W.T st d (.own c) = some k) (q : Q (.bl k) H) :
    wpAny (model X.prog X.w) X.A (call (.builtin "isinstance") [u, .ref C]) (EP X pins σ' Q) X.xe s := by
  unfold isinst at e
  simp only at e
  split at e
  · rename_i hc
    have go : ∀ {a : String}, a ∈ ["NoneType", "bool", "int", "str", "tuple", "list", "dict"] → Kit X s u (.type a) → k = false → wpAny (model X.prog X.w) X.A (call (.builtin "isinstance") [u, .ref C]) (EP X pins σ' Q) X.xe s := fun {a} ha kk ek => by
      subst ek
      exact isi_go I kk (by rw [cx.xw.K]; exact cx.wok.iB c C hc hC a ha) q
    cases d with
    | ref m =>
      simp only at e
      cases ho : st[m]? with
      | none => rw [ho] at e; cases e
      | some o =>
        rw [ho] at e
        obtain ⟨h1, h2⟩ := kit_st I rx si (si.refT r) ho
        cases o with
        | lst l => cases e; exact go (a := "list") (by decide) (h1 l rfl) rfl
        | dct l => cases e; exact go (a := "dict") (by decide) (h2 l rfl) rfl
        | lck l => cases e
        | ins c' fs =>
          simp only at e
          split at e
          · rename_i hc'
            cases e
            obtain ⟨a, C', dx, vs, ea, _, _, h3, h4, _⟩ := si.ins (si.refT r) (show insAt st m = some (c', fs) by unfold insAt; rw [ho])
            subst ea
            cases (show u = Value.ref a from rx)
            obtain ⟨e1, f1, f2, f3, f4⟩ := cx.wok.iO c C c' C' hc hc' hC h3
            have ty : TyX X.K H (.ref a) (.ref C') := .base (.ins h4 (by rw [cx.xw.K]; exact cx.wok.cl c' C' h3) (by rw [cx.xw.K]; exact f1) (by rw [cx.xw.K]; exact f2) (by rw [cx.xw.K]; exact f3) (by rw [cx.xw.K]; exact f4))
            exact isi_go I (kit_of (x := .ref a) (u := .ref a) I rfl ty) (by rw [cx.xw.K]; exact e1) q
          · cases e
    | scr l => cases e
    | non => cases e; exact go (by decide) (kit_d cx.xw I rx si r rfl) rfl
    | bl _ => cases e; exact go (by decide) (kit_d cx.xw I rx si r rfl) rfl
    | int _ => cases e; exact go (by decide) (kit_d cx.xw I rx si r rfl) rfl
    | str _ => cases e; exact go (by decide) (kit_d cx.xw I rx si r rfl) rfl
    | tup _ => cases e; exact go (by decide) (kit_d cx.xw I rx si r rfl) rfl
    | lst _ => cases e; exact go (by decide) (kit_d cx.xw I rx si r rfl) rfl
    | dct _ => cases e; exact go (by decide) (kit_d cx.xw I rx si r rfl) rfl
  · cases e
variable {a : E} {ea : Expr} {pos p p2 : Pos}
theorem boot_isi : bootBuiltins "isinstance" = some (.builtin "isinstance") := by decide +kernel
/-- isinstance(e, T) -/
theorem cf_isi (xw : XW X W) {t : Ty} {b : String} {y : Str} (hb : tyN t = some b) (hv : bootBuiltins y = some (.type b)) (hg : Gl X "isinstance") (hm : X.mg "isinstance" = none) (hg2 : Gl X y) (hm2 : X.mg y = none) (hn : y ≠ "__name__") (hdb : (y == ("__debug__" : Str)) = false)
    (ho : PE X ea (tMT W g0 H0 Wx (evT W.T (callN W.T n) a))) (he : starEach [ea, .Name y p2] X.env = (false, eval ea X.env) :: starEach [.Name y p2] X.env) : PE X (.Call (.Name "isinstance" p) [ea, .Name y p2] [] pos) (tM W g0 H0 Wx (ev W.T (callN W.T n) (.isi a t))) := by
  have h2 : PE X (.Name y p2) (tC (.ty b)) := pe_bltn hg2 hm2 hv rfl hn hdb
  have ha : PA X [ea, .Name y p2] _ := pa_cons ho (pa_cons h2 pa_nil rfl) he
  refine ⟨fun pins s σ H Q I ⟨env, st, g, si, af⟩ => ?_⟩
  simp only [ev] at af
  refine wpAny_Call_Name_kw (ld_blt I hg hm boot_isi ?_ (by decide +kernel) (by decide +kernel))
  refine PyProof.Rows.callWith_builtin1 (thn (ha.run pos pins s σ H (fun vs H1 => ∃ x d st1 g1, vs = [x, .ty b] ∧ SI W g0 H0 env st1 g1 σ H1 ∧ RT W g1 H0 env σ x d ∧ Aft W g0 H0 Wx env σ g1 ((R.of (isinst W.T st1 d t) st1).bind fun b s => .ok (.bl b) s) (Val Q)) I
    ⟨env, st, g, si, af.bind.imp fun d st1 g1 H1 l1 si1 af1 x rx => ⟨x, d, st1, g1, rfl, si1, rx, af1⟩⟩) fun us s1 ⟨vs, H1, I1, r, x, d, st1, g1, ev, si1, rd, af1⟩ => ?_) he rfl
  subst ev
  obtain ⟨u, w, eu, r1, r2⟩ := vals2 r
  subst eu
  cases (show w = Value.type b from r2)
  cases hi : isinst W.T st1 d t with
  | none => rw [hi] at af1; exact af1.elim
  | some k =>
    rw [hi] at af1
    exact isi_bt xw I1 r1 si1 rd hb hi (cmp_fin si1 af1)
theorem cf_isiO (cx : CxOk X W n Wx) {c : Nat} {C : Addr} (hC : W.cls c = some C) (hc : W.T.isC c = true) (hg : Gl X "isinstance") (hm : X.mg "isinstance" = none) (hg2 : Gl X (W.cn c)) (hdb : (W.cn c == ("__debug__" : Str)) = false)
    (ho : PE X ea (tMT W g0 H0 Wx (evT W.T (callN W.T n) a))) (he : starEach [ea, .Name (W.cn c) p2] X.env = (false, eval ea X.env) :: starEach [.Name (W.cn c) p2] X.env) : PE X (.Call (.Name "isinstance" p) [ea, .Name (W.cn c) p2] [] pos) (tM W g0 H0 Wx (ev W.T (callN W.T n) (.isi a (.own c)))) := by
  have h2 : PE X (.Name (W.cn c) p2) (tC (.ref C)) := pe_glob hg2 (by rw [cx.xw.mg]; exact cx.wok.iG c C hc hC) rfl hdb
  have ha : PA X [ea, .Name (W.cn c) p2] _ := pa_cons ho (pa_cons h2 pa_nil rfl) he
  refine ⟨fun pins s σ H Q I ⟨env, st, g, si, af⟩ => ?_⟩
  simp only [ev] at af
  refine wpAny_Call_Name_kw (ld_blt I hg hm boot_isi ?_ (by decide +kernel) (by decide +kernel))
  refine PyProof.Rows.callWith_builtin1 (thn (ha.run pos pins s σ H (fun vs H1 => ∃ x d st1 g1, vs = [x, .ref C] ∧ SI W g0 H0 env st1 g1 σ H1 ∧ RT W g1 H0 env σ x d ∧ Aft W g0 H0 Wx env σ g1 ((R.of (isinst W.T st1 d (.own c)) st1).bind fun b s => .ok (.bl b) s) (Val Q)) I
    ⟨env, st, g, si, af.bind.imp fun d st1 g1 H1 l1 si1 af1 x rx => ⟨x, d, st1, g1, rfl, si1, rx, af1⟩⟩) fun us s1 ⟨vs, H1, I1, r, x, d, st1, g1, ev, si1, rd, af1⟩ => ?_) he rfl
  subst ev
  obtain ⟨u, w, eu, r1, r2⟩ := vals2 r
  subst eu
  cases (show w = Value.ref C from r2)
  cases hi : isinst W.T st1 d (.own c) with
  | none => rw [hi] at af1; exact af1.elim
  | some k =>
    rw [hi] at af1
    exact isi_own cx I1 r1 si1 rd hC hi (cmp_fin si1 af1)
end
end CF
/-! CFMeth -/
/-! Methods of built-in types. -/
namespace CF
open PySem PySem.Spec L2
section
variable {X : Cx} {W : Wld} {n : Nat} {g0 : Gh} {H0 : Hp} {Wx : WX} {env : Env} {σ σ' : St} {st : Sto} {g : Gh} {H : Hp} {pins : List (Addr × Obj)} {s : Shared} {Q : VK} {x : V} {u : Value} {d : D}
/-! ### what a receiver is -/
def Is (s : Shared) (u : Value) (T : String) : Prop := s.TypeIs u T ∧ ∀ a, u = .ref a → ∃ ob, s.heap.get? a = some ob ∧ ob.dict = none
theorem is_str (I : Inv X pins σ' H s) {w : Str} (r : RelV (.str w) u) : Is s u "str" := by
  obtain ⟨t, e⟩ := r
  subst e
  exact ⟨typeIs_str s w t, fun _ e => nomatch e⟩
theorem is_lst (I : Inv X pins σ' H s) {a : Addr} {vs : List V} (h : H a = some (.lst vs)) : Is s (.ref a) "list" := by
  obtain ⟨_, its, n, _, _, e⟩ := I.lstM h
  refine ⟨⟨_, e, rfl⟩, fun b eb => ?_⟩
  cases eb
  exact ⟨_, e, rfl⟩
theorem is_dct (I : Inv X pins σ' H s) {a : Addr} {uo : HO} {l : List (D × D)} (rd : Rd H a uo) (dd : DctD W g a uo l) : Is s (.ref a) "dict" := by
  have fin : ∀ o, s.heap.get? a = some o → o.ExactDict → Is s (.ref a) "dict" := fun o h1 h2 => ⟨⟨o, h1, h2.1⟩, fun b eb => by cases eb; exact ⟨o, h1, h2.2.1⟩⟩
  rcases dd with ⟨kvs, e, p, n⟩ | ⟨xs, e, p, n, _⟩
  · subst e
    obtain ⟨_, _, vs, _, o, es, ep, h1, h2, _⟩ := dk_rd I.hok rd
    exact fin o h1 h2
  · subst e
    obtain ⟨o, es, ep, h1, h2, _⟩ := rd_dto I rd
    exact fin o h1 h2
/-- the receiver of a method that changes nothing -/
def bmT : Bm → D → String
  | .join, _ => "str"
  | .split, _ => "str"
  | .strip, _ => "str"
  | .index, .tup _ => "tuple"
  | .index, _ => "list"
  | .get, _ => "dict"
def bmId (b : Bm) (T : String) : String := match b, T with
  | .join, _ => "str.join"
  | .split, _ => "str.split"
  | .strip, _ => "str.strip"
  | .index, "tuple" => "tuple.index"
  | .index, _ => "list.index"
  | .get, _ => "dict.get"
def bmN : Bm → Str
  | .join => "join"
  | .split => "split"
  | .strip => "strip"
  | .index => "index"
  | .get => "get"
structure MFacts (T : String) (nm : Str) (id : String) : Prop where
  pa : PlainAttrs T
  slot : PySem.Slot T nm id
  ty : typeOf (.builtin id) = pure (.type "method_descriptor")
theorem bm_facts (b : Bm) (d : D) : MFacts (bmT b d) (bmN b) (bmId b (bmT b d)) := by
  cases b with
  | join => exact ⟨PySem.F.plainAttrs_str, PySem.F.slot_str_join, PySem.F.type_str_join⟩
  | split => exact ⟨PySem.F.plainAttrs_str, PySem.F.slot_str_split, PySem.F.type_str_split⟩
  | strip => exact ⟨PySem.F.plainAttrs_str, PySem.F.slot_str_strip, PySem.F.type_str_strip⟩
  | get => exact ⟨PySem.F.plainAttrs_dict, PySem.F.slot_dict_get, PySem.F.type_dict_get⟩
  | index =>
    cases d with
    | tup l => exact ⟨PySem.F.plainAttrs_tuple, PySem.F.slot_tuple_index, PySem.F.type_tuple_index⟩
    | _ => exact ⟨PySem.F.plainAttrs_list, PySem.F.slot_list_index, PySem.F.type_list_index⟩
theorem is_tup (xw : XW X W) (I : Inv X pins σ' H s) {a : Addr} {vs : List V} (h : TupN W.K H a vs) : Is s (.ref a) "tuple" := by
  rcases h with ⟨o, h1, h2⟩ | ⟨o, its, n, h1, h2, h3, _⟩
  · obtain ⟨e1, _, its, _, o', e2, hc, _⟩ := (show ObjOk X.prog X.w H s.heap a (.frz o (.tup vs)) from I.hok a _ h2)
    rw [e1] at e2
    cases e2
    exact ⟨⟨o, e1, hc⟩, fun b eb => by cases eb; exact ⟨o, e1, h1⟩⟩
  · have e1 := I.kIn a o (by rw [xw.K]; exact h1)
    exact ⟨⟨o, e1, h3⟩, fun b eb => by cases eb; exact ⟨o, e1, h2⟩⟩
/-- the receiver's type -/
theorem is_bm (xw : XW X W) (I : Inv X pins σ' H s) (rx : RelV x u) (si : SI W g0 H0 env st g σ H) (r : RT W g H0 env σ x d) {b : Bm} (hb : bmeOk b d st = true) : Is s u (bmT b d) := by
  have isS : isStr d = true → Is s u "str" := fun h => by
    cases d <;> simp [isStr] at h
    rw [(si.strT r).1] at rx
    exact is_str I rx
  cases b with
  | join => exact isS hb
  | split => exact isS hb
  | strip => exact isS hb
  | get =>
    simp only [bmeOk] at hb
    cases d <;> simp [dctOf] at hb
    · obtain ⟨a, uo, ea, rd, dd⟩ := si.dctT xw.ok r
      subst ea
      cases (show u = Value.ref a from rx)
      exact is_dct I rd dd
    · obtain ⟨l, hl⟩ := Option.isSome_iff_exists.mp hb
      obtain ⟨a, uo, ea, rd, dd⟩ := si.sdct (si.refT r) hl
      subst ea
      cases (show u = Value.ref a from rx)
      exact is_dct I rd dd
  | index =>
    simp only [bmeOk] at hb
    cases d <;> simp [itemsOf] at hb
    · obtain ⟨a, vs, ea, q, _⟩ := si.tupN xw.ok (si.flat r (fun _ e => (by cases e)) fun _ e => (by cases e))
      subst ea
      cases (show u = Value.ref a from rx)
      exact is_tup xw I q
    · obtain ⟨a, vs, ea, q, _⟩ := si.lstT xw.ok r
      subst ea
      cases (show u = Value.ref a from rx)
      exact is_lst I q
    · obtain ⟨l, hl⟩ := Option.isSome_iff_exists.mp hb
      obtain ⟨a, vs, ea, q, _⟩ := si.slst (si.refT r) hl
      subst ea
      cases (show u = Value.ref a from rx)
      exact is_lst I q
/-! ### texts -/
theorem strs_rv : ∀ {l : List D} {ws : List (List Nat)} {vs : List V}, strsOf l = some ws → RVs g vs l → vs = (ws.map toS).map V.str ∧ ∀ w ∈ ws, okS w
  | [], _, _, h, .nil => by cases h; exact ⟨rfl, fun _ m => by cases m⟩
  | .str x :: r, ws, _, h, .cons q t => by
    cases hr : strsOf r with
    | none => simp [strsOf, hr] at h
    | some js =>
      simp [strsOf, hr] at h
      subst h
      obtain ⟨e, o⟩ := q.str_inv
      obtain ⟨h1, h2⟩ := strs_rv hr t
      rw [e, h1]
      exact ⟨rfl, fun w m => (List.mem_cons.mp m).elim (fun e => e ▸ o) (h2 w)⟩
  | .non :: _, _, _, h, _ => by cases h
  | .bl _ :: _, _, _, h, _ => by cases h
  | .int _ :: _, _, _, h, _ => by cases h
  | .tup _ :: _, _, _, h, _ => by cases h
  | .lst _ :: _, _, _, h, _ => by cases h
  | .dct _ :: _, _, _, h, _ => by cases h
  | .ref _ :: _, _, _, h, _ => by cases h
  | .scr _ :: _, _, _, h, _ => by cases h
theorem join_eq (sep : List Nat) : ∀ ws : List (List Nat), Txt.join (toS sep) (ws.map toS) = toS (joinW sep ws) := by
  have go : ∀ ws : List (List Nat), Str.join (toS sep) (ws.map toS) = toS (joinW sep ws) := by
    intro ws
    induction ws with
    | nil => rfl
    | cons x r ih =>
      cases r with
      | nil => rfl
      | cons y r =>
        show toS x ++ toS sep ++ Str.join (toS sep) ((y :: r).map toS) = _
        rw [ih, toS_app, toS_app]
        rfl
  intro ws
  show Builtin.Str.glued _ _ = _
  rw [StrLaws.glued_eq_join]
  exact go ws
theorem join_sum (sep : List Nat) : ∀ ws : List (List Nat), ((ws.map toS).map (·.length)).sum + (ws.map toS).length * (toS sep).length ≤ (joinW sep ws).length + sep.length
  | [] => by simp
  | [x] => by simp [joinW, toS_len]
  | x :: y :: r => by
    have ih := join_sum sep (y :: r)
    simp only [List.map_cons, List.sum_cons, List.length_cons, toS_len, List.length_map, joinW, List.length_append, Nat.succ_mul] at ih ⊢
    omega
theorem joinW_ok {sep : List Nat} (hs : okS sep) : ∀ {ws : List (List Nat)}, (∀ w ∈ ws, okS w) → okS (joinW sep ws)
  | [], _ => fun _ m => by cases m
  | [x], h => h x List.mem_cons_self
  | x :: y :: r, h => okS_app (okS_app (h x List.mem_cons_self) hs) (joinW_ok hs fun w m => h w (List.mem_cons_of_mem _ m))
theorem spl_eq (c : Nat) : ∀ (x acc : List Nat), TL.spl [c] 0 acc x = (match splitW c x with | [] => [] | p :: ps => (acc ++ p) :: ps)
  | [], acc => by simp [TL.spl, splitW]
  | d :: r, acc => by
    unfold TL.spl splitW
    by_cases h : d = c
    · subst h
      rw [if_pos (by simp [TL.pre]), if_pos rfl]
      simp only [List.length_cons, List.length_nil, Nat.zero_add, Nat.sub_self]
      rw [spl_eq d r []]
      cases hs : splitW d r with
      | nil => cases r <;> simp [splitW] at hs <;> (split at hs <;> first | cases hs | (split at hs <;> cases hs))
      | cons p ps => simp
    · rw [if_neg (by simp [TL.pre, h]), if_neg h]
      rw [spl_eq c r (acc ++ [d])]
      cases hs : splitW c r with
      | nil => cases r <;> simp [splitW] at hs <;> (split at hs <;> first | cases hs | (split at hs <;> cases hs))
      | cons p ps => simp
theorem splitW_ok {c : Nat} {x : List Nat} (h : okS x) : ∀ p ∈ splitW c x, okS p := by
  induction x with
  | nil => intro p m; simp [splitW] at m; subst m; exact fun _ m => by cases m
  | cons d r ih =>
    have hr : okS r := fun c hc => h c (List.mem_cons_of_mem _ hc)
    intro p m
    unfold splitW at m
    split at m
    · rcases List.mem_cons.mp m with e | m
      · subst e; exact fun _ m => by cases m
      · exact ih hr p m
    · split at m
      · simp at m
        subst m
        exact fun e he => by simp at he; subst he; exact h _ List.mem_cons_self
      · rename_i q qs hq
        rcases List.mem_cons.mp m with e | m
        · subst e
          intro e he
          rcases List.mem_cons.mp he with z | z
          · subst z; exact h _ List.mem_cons_self
          · exact ih hr q (by rw [hq]; exact List.mem_cons_self) e z
        · exact ih hr p (by rw [hq]; exact List.mem_cons_of_mem _ m)
theorem strs_pair : ∀ {ws : List (List Nat)}, (∀ w ∈ ws, okS w) → RVs g ((ws.map toS).map V.str) (ws.map .str)
  | [], _ => .nil
  | w :: ws, h => .cons ⟨rfl, h w List.mem_cons_self⟩ (strs_pair fun x m => h x (List.mem_cons_of_mem _ m))
theorem idx_at {w : List Nat} : ∀ {l : List D} {k j : Nat}, l.all isStr = true → idxOf (.str w) l k = some j → k ≤ j ∧ l[j - k]? = some (.str w) ∧ ∀ m, m < j - k → l[m]? ≠ some (.str w)
  | [], _, _, _, h => by cases h
  | y :: r, k, j, hl, h => by
    simp only [List.all_cons, Bool.and_eq_true] at hl
    unfold idxOf at h
    obtain ⟨z, ez⟩ : ∃ z, y = .str z := by
      have := hl.1
      cases y <;> simp [isStr] at this
      exact ⟨_, rfl⟩
    subst ez
    split at h
    · rename_i he
      cases h
      rw [str_eq, decide_eq_true_iff] at he
      subst he
      exact ⟨Nat.le_refl _, by simp, fun m hm => by omega⟩
    · rename_i he
      rw [str_eq, decide_eq_true_iff] at he
      obtain ⟨h1, h2, h3⟩ := idx_at hl.2 h
      have hj : j - k = (j - (k + 1)) + 1 := by omega
      refine ⟨by omega, by rw [hj]; exact h2, fun m hm => ?_⟩
      cases m with
      | zero => simpa using he
      | succ m => simpa using h3 m (by omega)
theorem strs_all : ∀ {l : List D}, l.all isStr = true → ∃ ws, strsOf l = some ws ∧ l = ws.map .str
  | [], _ => ⟨[], rfl, rfl⟩
  | y :: r, h => by
    simp only [List.all_cons, Bool.and_eq_true] at h
    obtain ⟨ws, h1, h2⟩ := strs_all h.2
    have := h.1
    cases y <;> simp [isStr] at this
    rename_i w
    exact ⟨w :: ws, by simp [strsOf, h1], by rw [h2]; rfl⟩
theorem tw_plain : ∀ {x : List Nat}, plainW x = true → x.takeWhile Unicode.isSpace = x.takeWhile isSp
  | [], _ => rfl
  | c :: r, h => by
    unfold plainW at h
    rw [List.all_cons, Bool.and_eq_true, Bool.and_eq_true, decide_eq_true_eq, decide_eq_true_eq] at h
    have e : Unicode.isSpace c = isSp c := by
      by_cases h2 : c = 32
      · subst h2
        decide +kernel
      · rw [PySem.W.KWk.nosp (by omega) h.1.2]
        unfold isSp
        exact (beq_eq_false_iff_ne.mpr h2).symm
    rw [List.takeWhile_cons, List.takeWhile_cons, e, tw_plain (x := r) h.2]
theorem dw_drop (p : Nat → Bool) : ∀ x : List Nat, x.drop (x.takeWhile p).length = x.dropWhile p
  | [] => rfl
  | c :: r => by
    rw [List.takeWhile_cons, List.dropWhile_cons]
    split
    · rw [List.length_cons, List.drop_succ_cons, dw_drop p r]
    · rfl
/-- a text without a blank at its end: the blanks ahead go -/
theorem strip_eq {x : List Nat} (h : plainW x = true) (he : endsW x = true) : Txt.strip (toS x) = toS (x.dropWhile isSp) := by
  have lo : stripLo Unicode.isSpace true (toS x) = (x.takeWhile isSp).length := by
    unfold stripLo
    rw [if_pos rfl]
    show ((toS x).cps.toList.takeWhile Unicode.isSpace).length = _
    rw [show (toS x).cps.toList = x by simp [toS], tw_plain h]
  have hi : stripHi Unicode.isSpace true (toS x) (x.takeWhile isSp).length = x.length := by
    unfold stripHi
    rw [if_pos rfl, show (toS x).cps.toList = x by simp [toS], dw_drop]
    have e : (x.dropWhile isSp).reverse.takeWhile Unicode.isSpace = [] := by
      cases hl : (x.dropWhile isSp).reverse with
      | nil => rfl
      | cons c r =>
        have m : (x.dropWhile isSp).getLast? = some c := by rw [← List.head?_reverse, hl]; rfl
        have suf : x.dropWhile isSp <:+ x := List.dropWhile_suffix _
        obtain ⟨t, ht⟩ := suf
        have m2 : x.getLast? = some c := by
          rw [← ht, List.getLast?_append, m]
          rfl
        unfold endsW at he
        rw [m2] at he
        have mem : c ∈ x := List.mem_of_getLast? m2
        have pl := List.all_eq_true.mp h c mem
        rw [Bool.and_eq_true, decide_eq_true_eq, decide_eq_true_eq] at pl
        have ne : c ≠ 32 := fun z => by
          subst z
          cases he
        rw [List.takeWhile_cons, PySem.W.KWk.nosp (by omega) pl.2]
        rfl
    rw [e, toS_len]
    rfl
  unfold Txt.strip Txt.stripBy stripSame
  rw [lo, hi]
  split
  · rename_i z
    rw [Bool.and_eq_true, beq_iff_eq] at z
    rw [← dw_drop, z.1, List.drop_zero]
  · unfold stripped Builtin.Str.strSub
    rw [lo, hi]
    unfold toS
    congr 1
    apply Array.toList_inj.mp
    rw [← dw_drop]
    simp
    exact List.take_of_length_le (by rw [List.length_drop]; exact Nat.le_refl _)
theorem bm_run (xw : XW X W) (b : Bm) {xs : List V} {us : List Value} {ds : List D} (I : Inv X pins σ' H s) (rx : RelV x u) (rs : Vals xs us) (si : SI W g0 H0 env st g σ H) (r : RT W g H0 env σ x d) (rr : Paired (RT W g H0 env σ) xs ds)
    (af : Aft W g0 H0 Wx env σ g (R.of (bme st b d ds) st) (Val Q)) : wpAny (model X.prog X.w) X.A (call (.builtin (bmId b (bmT b d))) (u :: us)) (EP X pins σ' Q) X.xe s := by
  cases b with
  | join =>
    replace af : Aft W g0 H0 Wx env σ g (R.of (bJoin st d ds) st) (Val Q) := af
    unfold bJoin at af
    split at af
    · rename_i sep y
      obtain ⟨yv, ey, ry⟩ := p1 rr
      subst ey
      obtain ⟨e1, o1⟩ := si.strT r
      subst e1
      cases hi : itemsOf st y with
      | none => rw [hi] at af; exact af.elim
      | some l =>
        rw [hi] at af
        simp only [Option.bind_some] at af
        cases hw : strsOf l with
        | none => rw [hw] at af; exact af.elim
        | some ws =>
          rw [hw] at af
          simp only [Option.bind_some] at af
          split at af
          · rename_i hz
            obtain ⟨a, vs, ea, sq, p⟩ := si.items xw.ok ry hi
            obtain ⟨ev, oks⟩ := strs_rv hw p
            subst ea ev
            refine mt_join pins s σ' H _ _ u us Q I rx rs ⟨toS sep, a, ws.map toS, rfl, rfl, sqLT xw sq, ?_, ?_⟩
            · have h1 := join_sum sep ws
              have h2 := SZ_line
              omega
            · rw [join_eq]
              exact fin0 si af ⟨rfl, joinW_ok o1 oks⟩
          · exact af.elim
    · exact af.elim
  | split =>
    replace af : Aft W g0 H0 Wx env σ g (R.of (bSplit d ds) st) (Val Q) := af
    unfold bSplit at af
    split at af
    · rename_i w c
      split at af
      · rename_i hz
        obtain ⟨yv, ey, ry⟩ := p1 rr
        subst ey
        obtain ⟨e1, o1⟩ := si.strT r
        obtain ⟨e2, o2⟩ := si.strT ry
        subst e1 e2
        refine mt_split pins s σ' H _ _ u us Q I rx rs ⟨toS w, toS [c], rfl, rfl, rfl, by rw [toS_len, sizeLine_eq]; omega, ?_⟩
        have e : Txt.split (toS w) (toS [c]) = (splitW c w).map toS := by
          have h := SX.split_S (a := w) (b := [c]) (by simp) (by simp; omega)
          refine h.trans ?_
          rw [spl_eq]
          cases splitW c w with
          | nil => rfl
          | cons p ps => rfl
        rw [e]
        intro p hp
        exact finL si af (strs_pair (splitW_ok o1)) p hp
      · exact af.elim
    · exact af.elim
  | strip =>
    replace af : Aft W g0 H0 Wx env σ g (R.of (bStrip d ds) st) (Val Q) := af
    unfold bStrip at af
    split at af
    · rename_i w
      split at af
      · rename_i hz
        obtain ⟨e1, o1⟩ := si.strT r
        subst e1
        have e0 : xs = [] := by
          cases rr
          rfl
        subst e0
        refine mt_strip pins s σ' H _ _ u us Q I rx rs ⟨toS w, rfl, rfl, by rw [toS_len]; exact le_line hz.2.2, ?_⟩
        rw [strip_eq hz.1 hz.2.1]
        exact fin0 si af ⟨rfl, fun c hc => o1 c ((List.dropWhile_sublist _).subset hc)⟩
      · exact af.elim
    · exact af.elim
  | index =>
    replace af : Aft W g0 H0 Wx env σ g (R.of (bIndex st d ds) st) (Val Q) := af
    unfold bIndex at af
    split at af
    · rename_i w
      obtain ⟨yv, ey, ry⟩ := p1 rr
      subst ey
      obtain ⟨e1, o1⟩ := si.strT ry
      subst e1
      cases hi : itemsOf st d with
      | none => rw [hi] at af; exact af.elim
      | some l =>
        rw [hi] at af
        simp only [Option.bind_some] at af
        split at af
        · rename_i hl
          cases hx : idxOf (.str w) l 0 with
          | none => rw [hx] at af; exact af.elim
          | some j =>
            rw [hx] at af
            have q : Q (.int (j : Nat)) H := fin0 (d := .int (j : Nat)) si af rfl
            obtain ⟨ws, hw, el⟩ := strs_all hl
            obtain ⟨_, h2, h3⟩ := idx_at hl hx
            rw [Nat.sub_zero] at h2 h3
            have at_ : ∀ m : Nat, l[m]? = (ws[m]?).map .str := fun m => by rw [el, List.getElem?_map]
            have h2' : (ws.map toS)[j]? = some (toS w) := by
              rw [at_] at h2
              rw [List.getElem?_map]
              cases hj : ws[j]? with
              | none => rw [hj] at h2; cases h2
              | some z => rw [hj] at h2; cases h2; rfl
            have h3' : ∀ m, m < j → (ws.map toS)[m]? ≠ some (toS w) := fun m hm e => by
              refine h3 m hm ?_
              rw [at_]
              rw [List.getElem?_map] at e
              cases hj : ws[m]? with
              | none => rw [hj] at e; cases e
              | some z =>
                rw [hj] at e
                have e := toS_inj.mp (Option.some.inj e)
                subst e
                rfl
            cases d with
            | tup l' =>
              cases hi
              obtain ⟨a, vs, ea, sq, p⟩ := si.tupT xw.ok r
              obtain ⟨ev, oks⟩ := strs_rv hw p
              subst ea ev
              exact mt_tup_index pins s σ' H _ _ u us Q I rx rs ⟨a, ws.map toS, toS w, j, rfl, rfl, by rw [xw.K]; exact sq, h2', h3', q⟩
            | _ =>
              first
                | (cases hi; done)
                | (obtain ⟨a, vs, ea, sq, p⟩ := si.list (l := l) xw.ok r hi
                   obtain ⟨ev, oks⟩ := strs_rv hw p
                   subst ea ev
                   refine mt_index pins s σ' H _ _ u us Q I rx rs ⟨a, (ws.map toS).map V.str, .str (toS w), j, .str (toS w), rfl, rfl, .inl (.of sq), rfl, flat_strs _, ?_, ?_, fun m z' hm hz' => ?_, q⟩
                   · rw [List.getElem?_map, h2']; rfl
                   · simp [eqV]
                   · rw [List.getElem?_map] at hz'
                     cases hj : (ws.map toS)[m]? with
                     | none => rw [hj] at hz'; cases hz'
                     | some z =>
                       rw [hj] at hz'
                       cases hz'
                       have := h3' m hm
                       rw [hj] at this
                       simp [eqV]
                       exact fun e => this (by rw [e]))
        · exact af.elim
    · exact af.elim
  | get =>
    replace af : Aft W g0 H0 Wx env σ g (R.of (bGet st d ds) st) (Val Q) := af
    unfold bGet at af
    split at af
    · rename_i k y
      obtain ⟨kv, yv, ex, rk, ry⟩ := p2 rr
      subst ex
      cases hd : dctOf st d with
      | none => rw [hd] at af; exact af.elim
      | some dl =>
        rw [hd] at af
        simp only [Option.bind_some] at af
        split at af
        · rename_i hk
          simp only [Bool.and_eq_true] at hk
          have ryv : RV g yv y := si.flat ry (fun m e => by subst e; simp [flatD] at hk) fun m e => by subst e; simp [flatD] at hk
          have rkv : RV g kv k := si.flat rk (keyOk_flat hk.1).1 (keyOk_flat hk.1).2
          obtain ⟨u1, u2, eu, r1, r2⟩ := vals2 rs
          subst eu
          have hr := xw.room
          have go : ∀ {a : Addr} {uo : HO}, Rd H a uo → DctD W g a uo dl → wpAny (model X.prog X.w) X.A (call (.builtin "dict.get") [.ref a, u1, u2]) (EP X pins σ' Q) X.xe s := fun {a uo} rd dd =>
            dct_getOr (by omega) I (df_of xw.P xw.w xw.K xw.ok si.hs I rd dd hk.1 rkv) rd r1 r2 ryv fun z w' s' I' rz rg => ⟨z, H, I', rz, fin0 si af rg⟩
          unfold dctOf at hd
          split at hd
          · cases hd
            obtain ⟨a, uo, ea, rd, dd⟩ := si.dctT xw.ok r
            subst ea
            cases (show u = Value.ref a from rx)
            exact go rd dd
          · obtain ⟨a, uo, ea, rd, dd⟩ := si.sdct (si.refT r) hd
            subst ea
            cases (show u = Value.ref a from rx)
            exact go rd dd
          · cases hd
        · exact af.elim
    · exact af.elim
end
end CF
/-! CFMut -/
/-! Methods that change their object. -/
namespace CF
open PySem PySem.Spec L2
def muN : Mu → Str
  | .append => "append"
  | .extend => "extend"
  | .pop => "pop"
  | .popAt => "pop"
  | .setdefault => "setdefault"
  | .update => "update"
def muTy (m : Mu) : String := if isLm m then "list" else "dict"
def muId : Mu → String
  | .append => "list.append"
  | .extend => "list.extend"
  | .pop => "list.pop"
  | .popAt => "list.pop"
  | .setdefault => "dict.setdefault"
  | .update => "dict.update"
theorem mu_facts (m : Mu) : MFacts (muTy m) (muN m) (muId m) := by
  cases m with
  | append => exact ⟨PySem.F.plainAttrs_list, PySem.F.slot_list_append, PySem.F.type_list_append⟩
  | extend => exact ⟨PySem.F.plainAttrs_list, PySem.F.slot_list_extend, PySem.F.type_list_extend⟩
  | pop => exact ⟨PySem.F.plainAttrs_list, PySem.F.slot_list_pop, PySem.F.type_list_pop⟩
  | popAt => exact ⟨PySem.F.plainAttrs_list, PySem.F.slot_list_pop, PySem.F.type_list_pop⟩
  | setdefault => exact ⟨PySem.F.plainAttrs_dict, PySem.F.slot_dict_setdefault, PySem.F.type_dict_setdefault⟩
  | update => exact ⟨PySem.F.plainAttrs_dict, PySem.F.slot_dict_update, PySem.F.type_dict_update⟩
section
variable {X : Cx} {W : Wld} {n : Nat} {g0 : Gh} {H0 : Hp} {Wx : WX} {env : Env} {σ σ' : St} {st : Sto} {g : Gh} {H : Hp} {pins : List (Addr × Obj)} {s : Shared} {Q : VK} {x : V} {u : Value} {d : D}
theorem r1 {xs : List V} {d : D} (h : RVs g xs [d]) : ∃ x, xs = [x] ∧ RV g x d := by
  cases h with
  | cons r t => cases t; exact ⟨_, rfl, r⟩
theorem r2 {xs : List V} {d e : D} (h : RVs g xs [d, e]) : ∃ x y, xs = [x, y] ∧ RV g x d ∧ RV g y e := by
  cases h with
  | cons r t =>
    obtain ⟨y, ey, q⟩ := r1 t
    subst ey
    exact ⟨_, _, rfl, r, q⟩
theorem pairedGet2 {α β : Type} {F : α → β → Prop} : ∀ {a : List α} {b : List β}, Paired F a b → ∀ {i : Nat} {y : β}, b[i]? = some y → ∃ x, a[i]? = some x ∧ F x y := fun h _ _ e => pairedGet h e
theorem pairedDropLast {α β : Type} {F : α → β → Prop} : ∀ {a : List α} {b : List β}, Paired F a b → Paired F a.dropLast b.dropLast
  | _, _, .nil => .nil
  | _, _, .cons _ .nil => .nil
  | _, _, .cons r (.cons q t) => .cons r (pairedDropLast (.cons q t))
theorem pairedErase {α β : Type} {F : α → β → Prop} : ∀ {a : List α} {b : List β}, Paired F a b → ∀ i, Paired F (a.eraseIdx i) (b.eraseIdx i)
  | _, _, .nil, _ => .nil
  | _, _, .cons _ t, 0 => t
  | _, _, .cons r t, i + 1 => .cons r (pairedErase t i)
/-- a list's method -/
theorem mutL_run (xw : XW X W) {m : Mu} (hm : isLm m = true) {a : Addr} {vs xs : List V} {us : List Value} {l l' ds : List D} {d' : D} (I : Inv X pins σ' H s) (si : SI W g0 H0 env st g σ H) (ha : H a = some (.lst vs)) (rl : RVs g vs l) (rs : Vals xs us) (rd : RVs g xs ds)
    (e : muL m l ds = some (d', l')) (k : ∀ v vs', RV g v d' → RVs g vs' l' → Q v (upd H a (.lst vs'))) : wpAny (model X.prog X.w) X.A (call (.builtin (muId m)) (.ref a :: us)) (EP X pins σ' Q) X.xe s := by
  have ra : RelV (V.ref a) (Value.ref a) := rfl
  have hl := pairedLen rl
  cases m with
  | append =>
    replace e : mAppend l ds = some (d', l') := e
    unfold mAppend at e
    split at e
    · split at e <;> cases e
      rename_i hz
      obtain ⟨y, ey, ry⟩ := r1 rd
      subst ey
      exact mt_append pins s σ' H _ _ _ us Q I ra rs ⟨a, vs, y, rfl, rfl, ha, by rw [hl]; exact lt_line hz, k .non _ trivial (pairedApp rl (.cons ry .nil))⟩
    · cases e
  | extend =>
    replace e : mExtend l ds = some (d', l') := e
    unfold mExtend at e
    split at e
    · split at e <;> cases e
      rename_i hz
      obtain ⟨y, ey, ry⟩ := r1 rd
      obtain ⟨b, zs, eb, hb, rz⟩ := si.lstV xw.ok ry
      subst ey eb
      exact mt_extend pins s σ' H _ _ _ us Q I ra rs ⟨a, b, vs, zs, rfl, rfl, ha, hb, by rw [hl, pairedLen rz]; exact le_line hz, k .non _ trivial (pairedApp rl rz)⟩
    · cases e
  | pop =>
    replace e : mPop l ds = some (d', l') := e
    unfold mPop at e
    split at e
    · cases hx : l[l.length - 1]? with
      | none => rw [hx] at e; cases e
      | some y =>
        rw [hx] at e
        cases e
        cases rd
        obtain ⟨yv, hy, ry⟩ := pairedGet rl hx
        exact mt_pop pins s σ' H _ _ _ us Q I ra rs ⟨a, vs, yv, rfl, rfl, ha, by rw [hl]; exact hy, k yv _ ry (pairedDropLast rl)⟩
    · cases e
  | popAt =>
    replace e : mPopAt l ds = some (d', l') := e
    unfold mPopAt at e
    split at e
    · rename_i i
      split at e
      · rename_i hi
        cases hx : l[i.toNat]? with
        | none => rw [hx] at e; cases e
        | some y =>
          rw [hx] at e
          cases e
          obtain ⟨iv, ei, ri⟩ := r1 rd
          cases ri.int_inv
          subst ei
          obtain ⟨yv, hy, ry⟩ := pairedGet rl hx
          have hz : vs.length ≤ sizeLine := (I.lstM ha).1
          rw [sizeLine_eq] at hz
          refine mt_popAt pins s σ' H _ _ _ us Q I ra rs ⟨a, vs, i, i.toNat, yv, rfl, rfl, ha, by omega, by omega, ?_, hy, k yv _ ry (pairedErase rl _)⟩
          rw [hl]
          exact seqIndex_of hi.1 hi.2
      · cases e
    · cases e
  | setdefault => cases hm
  | update => cases hm
/-- a dict's method -/
theorem mutD_run (xw : XW X W) {m : Mu} (hm : isLm m = false) {a : Addr} {uo : HO} {xs : List V} {us : List Value} {l l' : List (D × D)} {ds : List D} {d' : D} (I : Inv X pins σ' H s) (si : SI W g0 H0 env st g σ H) (hf : g.fz a = none) (ha : H a = some uo) (dd : DctD W g a uo l) (rs : Vals xs us) (rd : RVs g xs ds)
    (e : muD m l ds = some (d', l')) (k : ∀ v H', RV g v d' → (H' = H ∧ l' = l) ∨ (∃ u', H' = upd H a u' ∧ DctD W g a u' l') → Q v H') : wpAny (model X.prog X.w) X.A (call (.builtin (muId m)) (.ref a :: us)) (EP X pins σ' Q) X.xe s := by
  have hr := xw.room
  cases m with
  | setdefault =>
    replace e : mSetd l ds = some (d', l') := e
    unfold mSetd at e
    split at e
    · rename_i kk vv
      split at e
      · rename_i hk
        simp only [Bool.and_eq_true, decide_eq_true_eq] at hk
        obtain ⟨kv, yv, ex, rk, ry⟩ := r2 rd
        subst ex
        obtain ⟨u1, u2, eu, q1, q2⟩ := vals2 rs
        subst eu
        refine dct_setd xw.P xw.w (by omega) I (df_of xw.P xw.w xw.K xw.ok si.hs I (.of ha) dd hk.1 rk) ha hk.2 q1 rk q2 ry (fun d x w' s' hf I' rw' rg => ?_) fun hf u' s' w' I' rw' dd' => ?_
        · rw [hf] at e
          cases e
          exact ⟨x, H, I', rw', k x H rg (.inl ⟨rfl, rfl⟩)⟩
        · rw [hf] at e
          cases e
          exact ⟨yv, _, I', rw', k yv _ ry (.inr ⟨u', rfl, dd'⟩)⟩
      · cases e
    · cases e
  | update =>
    replace e : mUpdate l ds = some (d', l') := e
    unfold mUpdate at e
    split at e
    · rename_i ml
      split at e
      · rename_i hk
        cases e
        simp only [Bool.and_eq_true, decide_eq_true_eq] at hk
        obtain ⟨⟨hk1, hk2⟩, hk3⟩ := hk
        obtain ⟨yv, ex, ry⟩ := r1 rd
        subst ex
        obtain ⟨u1, eu, q1⟩ := vals1 rs
        subst eu
        obtain ⟨b, ub, eb, rdb, ddb⟩ := si.dctT (σ := σ) (env := env) xw.ok (.inl ry)
        subst eb
        cases (show u1 = Value.ref b from q1)
        rcases dd with ⟨kvs, e1, p1, n1⟩ | ⟨xs, _, p, _, _, _, hx⟩
        · rcases ddb with ⟨kvs2, e2, p2, n2⟩ | ⟨xs, _, p, _, _, _, hx⟩
          · subst e1 e2
            obtain ⟨z1, hd1, vs1, rel1, dd1⟩ := dk_of I.hok ha
            obtain ⟨z2, hd2, vs2, rel2, dd2⟩ := dk_rd I.hok rdb
            have hne : a ≠ b := by
              intro eab
              subst eab
              obtain ⟨ad, ead, q⟩ := ry.dct_inv
              cases ead
              rcases q with q | q
              · rw [hf] at q; cases q
              · rw [si.hs.f0] at q
                obtain ⟨l', _, _, _, e', _⟩ := xw.ok a _ q
                cases e'
            have hsz : vs1.length + vs2.length ≤ sizeLine := by rw [← rel1.length, ← rel2.length, pairedLen p1, pairedLen p2]; exact le_line hk3
            refine call_meetsIn F.slot_dict_update dd1.typeIs F.entry_dict_update (F.args_dict_update_2 _ _) (meets_dict_update (mixKind X.prog X.w) a b hne hd2) ⟨vs1, vs2, dd1, dd2, hsz, fun h' dd' _ hs' => ?_⟩
            obtain ⟨m1, m2⟩ := pk_merge p2 p1 n1
            have he : ∃ q, h'.get? a = some q := let ⟨q, _, _, hq, _⟩ := dd'; ⟨q, hq⟩
            have hlen : (mergeK kvs kvs2).length ≤ sizeLine := by rw [pairedLen m1]; exact Nat.le_trans (mergeD_len _ _) (le_line hk3)
            refine ⟨.non, _, d_write (t' := s.toks) I (by rw [ha]; exact True.intro) hs' he (dk_new hlen hd1 (KV.merge rel2 rel1) dd'), rfl, k .non _ trivial (.inr ⟨_, rfl, .inl ⟨_, rfl, m1, m2⟩⟩)⟩
          · exact absurd (pt_tup p hk1) hx
        · exact absurd (pt_tup p hk2) hx
      · split at e
        · rename_i kk yy
          split at e
          · rename_i hk
            cases e
            simp only [Bool.and_eq_true, decide_eq_true_eq] at hk
            obtain ⟨⟨⟨hk1, hk2⟩, hk3⟩, hk4⟩ := hk
            obtain ⟨yv, ex, ry⟩ := r1 rd
            subst ex
            obtain ⟨u1, eu, q1⟩ := vals1 rs
            subst eu
            obtain ⟨b, ub, eb, rdb, ddb⟩ := si.dctT (σ := σ) (env := env) xw.ok (.inl ry)
            subst eb
            cases (show u1 = Value.ref b from q1)
            have hne : a ≠ b := by
              intro eab
              subst eab
              obtain ⟨ad, ead, q⟩ := ry.dct_inv
              cases ead
              rcases q with q | q
              · rw [hf] at q; cases q
              · rw [si.hs.f0] at q
                obtain ⟨l', _, _, _, e', _⟩ := xw.ok a _ q
                cases e'
            exact dct_updT xw.P xw.w xw.K xw.ok si.hs (by omega) I hne ha dd hk3 hk4 rdb ddb hk1 hk2 fun u' s' I' dd' => ⟨.non, _, I', rfl, k .non _ trivial (.inr ⟨_, rfl, dd'⟩)⟩
          · cases e
        · cases e
    · cases e
  | append => cases hm
  | extend => cases hm
  | pop => cases hm
  | popAt => cases hm
/-! ### at an object of the store, at a name's own -/
theorem so_get {o : Nat} {x : SO} (e : st[o]? = some x) : st.set o x = st := by
  apply List.ext_getElem?
  intro i
  by_cases h : i = o
  · subst h
    have hl : i < st.length := (List.getElem?_eq_some_iff.mp e).1
    rw [List.getElem?_set_self hl, e]
  · rw [List.getElem?_set_ne (Ne.symm h)]
theorem mut_run (xw : XW X W) {m : Mu} {o : D} {xs : List V} {us : List Value} {ds : List D} {v : V} {uv : Value} (I : Inv X pins σ' H s) (rx : RelV v uv) (si : SI W g0 H0 env st g σ H) (rv : RV g v o) (rs : Vals xs us) (rd : RVs g xs ds) (hty : ∀ k, o = .ref k → ∀ x, st[k]? = some x → (∃ l, x = .lst l ∧ isLm m = true) ∨ ∃ l, x = .dct l ∧ isLm m = false)
    (af : Aft W g0 H0 Wx env σ g (mutR m o ds st) (Val Q)) : wpAny (model X.prog X.w) X.A (call (.builtin (muId m)) (uv :: us)) (EP X pins σ' Q) X.xe s := by
  unfold mutR at af
  split at af
  · rename_i k
    cases ho : st[k]? with
    | none => rw [ho] at af; exact af.elim
    | some x =>
      rw [ho] at af
      obtain ⟨a, ea, hm, hmu, so⟩ := si.at_ rv ho
      subst ea
      cases (show uv = Value.ref a from rx)
      rcases hty k rfl x ho with ⟨l, ex, hl⟩ | ⟨l, ex, hl⟩
      · subst ex
        simp only at af
        cases e : muL m l ds with
        | none => rw [e] at af; exact af.elim
        | some p =>
          obtain ⟨d', l'⟩ := p
          rw [e] at af
          obtain ⟨vs, h1, h2⟩ := so
          refine mutL_run xw hl I si h1 h2 rs rd e fun w vs' rw' rl' => ?_
          exact af g _ (.refl g) (si.next (si.hs.put hm (fun l2 z => by rw [ho] at z; cases z) ⟨vs', upd_same, rl'⟩) (Frm.put hmu)) w rw'
      · subst ex
        simp only at af
        cases e : muD m l ds with
        | none => rw [e] at af; exact af.elim
        | some p =>
          obtain ⟨d', l'⟩ := p
          rw [e] at af
          obtain ⟨uo, h1, h2⟩ := so
          refine mutD_run xw hl I si ((si.hs.mz k a hm).resolve_right fun ⟨l2, z⟩ => by rw [ho] at z; cases z) h1 h2 rs rd e fun w H' rw' hc => ?_
          rcases hc with ⟨e1, e2⟩ | ⟨u', e1, dd'⟩
          · subst e1 e2
            simp only [so_get ho] at af
            exact af g _ (.refl g) si w rw'
          · subst e1
            exact af g _ (.refl g) (si.next (si.hs.put hm (fun l2 z => by rw [ho] at z; cases z) ⟨u', upd_same, dd'⟩) (Frm.put hmu)) w rw'
  · exact af.elim
/-- a name's own is changed -/
theorem SI.ownPut {i : Nat} {a : Addr} {d' : D} {o : HO} (si : SI W g0 H0 env st g σ H) (e : env[i]? = some (.ow d)) (es : σ[i]? = some (some (.ref a))) (new : OwR W (upd H a o) g a d') : SI W g0 H0 (env.set i (.ow d')) st g σ (upd H a o) := by
  obtain ⟨h1, h2, h3, h4⟩ := si.ownAt e es
  refine ⟨si.hs.own h1 h2 h4.some h4.nf, ?_, ?_⟩
  · refine ⟨si.fr.le, fun b x hb nm => ?_, si.fr.fz, si.fr.mu, fun b hb => ?_⟩
    · rw [upd_ne fun z => by rw [z, h3] at hb; cases hb]
      exact si.fr.keep b x hb nm
    · rw [upd_ne fun z => by rw [z] at hb; exact hb h3]
      exact si.fr.al b hb
  · have hl : i < env.length := (List.getElem?_eq_some_iff.mp e).1
    refine ⟨by rw [List.length_set]; exact si.er.len, fun j sl x e1 e2 => ?_, fun j k dj dk b e1 e2 s1 s2 => ?_⟩
    · by_cases hj : j = i
      · subst hj
        rw [List.getElem?_set_self hl] at e1
        cases e1
        rw [es] at e2
        cases e2
        exact ⟨a, rfl, h1, h2, h3, new⟩
      · rw [List.getElem?_set_ne (Ne.symm hj)] at e1
        have q := si.er.sl j sl x e1 e2
        cases sl with
        | emp => trivial
        | pu d0 => exact q
        | ow d0 =>
          obtain ⟨b, eb, n1, n2, n3, r⟩ := q
          have hb : b ≠ a := fun z => by
            subst z
            rw [eb] at e2
            exact hj (si.er.ap j i d0 d b e1 e e2 es)
          exact ⟨b, eb, n1, n2, n3, r.at (upd_ne hb) (.refl g)⟩
        | ex c fs => trivial
        | hd a c fs => exact q
    · have ow : ∀ {k : Nat} {dk : D}, (env.set i (.ow d'))[k]? = some (.ow dk) → ∃ d0, env[k]? = some (.ow d0) := fun {k dk} q => by
        by_cases hk : k = i
        · subst hk; exact ⟨d, e⟩
        · rw [List.getElem?_set_ne (Ne.symm hk)] at q; exact ⟨dk, q⟩
      obtain ⟨d1, q1⟩ := ow e1
      obtain ⟨d2, q2⟩ := ow e2
      exact si.er.ap j k d1 d2 b q1 q2 s1 s2
end
end CF
/-! CFMethE -/
/-! Methods of built-in types as expressions. -/
namespace CF
open PySem PySem.Spec L2
/-- what is asked of the written call o.m(e, ..) -/
structure MC (X : Cx) (o : Expr) (nm : Str) (apos : Pos) (e : Expr) (es : List Expr) (cpos : Pos) : Prop where
  base : attributeBase o nm X.env (eval o X.env) = eval o X.env
  few : ((backTo cpos (starEach (e :: es) X.env)).all (fun x => !x.1) && (backToKw cpos (keywordEach [] X.env)).all (fun x => x.1.isSome)
      && decide ((e :: es).length + ([] : List Keyword).length + (if ([] : List Keyword).isEmpty then 0 else 1) < 30)) = true
  line : (apos.endLine == cpos.line) = true
  st : starEach (e :: es) X.env = (false, eval e X.env) :: starEach es X.env
  plain : (backTo cpos (starEach es X.env)).any (·.1) = false
section
variable {X : Cx} {W : Wld} {n : Nat} {g0 : Gh} {H0 : Hp} {Wx : WX} {a : E} {es : As} {eo : Expr} {apos cpos : Pos} {e : Expr} {es' : List Expr}
/-- a method's call, its type found when the receiver is known -/
theorem pe_dyn {nm : Str} {to : TE} {ta : TA} {t : TE} (mc : MC X eo nm apos e es' cpos) (ho : PE X eo to) (ha : PA X (e :: es') ta)
    (h : ∀ σ H Q, t σ H Q → to σ H fun x H1 => ∃ T id, MFacts T nm id ∧ (∀ pins s u, Inv X pins σ H1 s → RelV x u → Is s u T) ∧ ta σ H1 fun xs H2 => ∀ pins s u us, Inv X pins σ H2 s → RelV x u → Vals xs us → wpAny (model X.prog X.w) X.A (call (.builtin id) (u :: us)) (EP X pins σ Q) X.xe s) :
    PE X (.Call (.Attribute eo nm apos) (e :: es') [] cpos) t := by
  refine ⟨fun pins s σ H Q I hq => ?_⟩
  refine wpAny_Call_method_late mc.base mc.few mc.line rfl (thn (ho.run pins s σ H _ I (h σ H Q hq)) fun u s1 ⟨x, H1, I1, rx, T, id, mf, ty, q1⟩ => ?_)
  obtain ⟨h1, h2⟩ := ty pins s1 u I1 rx
  refine ⟨T, id, mf.pa, mf.slot, mf.ty, h1, h2, ?_⟩
  have hA := ha.run cpos pins s1 σ H1 _ I1 q1
  rw [mc.st] at hA ⊢
  have hp : ((false, eval e X.env) :: backTo cpos (starEach es' X.env)).any (·.1) = false := by rw [List.any_cons, mc.plain]; rfl
  exact Calls.callWith_builtin hp (Calls.evalArgs_plain (thn hA fun us s2 ⟨vs, H2, I2, r2, q2⟩ => q2 pins s2 u us I2 rx r2))
theorem pe_dyn0 {nm : Str} {to : TE} {t : TE} (base : attributeBase eo nm X.env (eval eo X.env) = eval eo X.env) (line : (apos.endLine == cpos.line) = true) (ho : PE X eo to)
    (h : ∀ σ H Q, t σ H Q → to σ H fun x H1 => ∃ T id, MFacts T nm id ∧ (∀ pins s u, Inv X pins σ H1 s → RelV x u → Is s u T) ∧ ∀ pins s u, Inv X pins σ H1 s → RelV x u → wpAny (model X.prog X.w) X.A (call (.builtin id) [u]) (EP X pins σ Q) X.xe s) :
    PE X (.Call (.Attribute eo nm apos) [] [] cpos) t := by
  refine ⟨fun pins s σ H Q I hq => ?_⟩
  refine wpAny_Call_method0_late base line (thn (ho.run pins s σ H _ I (h σ H Q hq)) fun u s1 ⟨x, H1, I1, rx, T, id, mf, ty, q1⟩ => ?_)
  obtain ⟨h1, h2⟩ := ty pins s1 u I1 rx
  exact ⟨T, id, mf.pa, mf.slot, mf.ty, h1, h2, Calls.callWith_builtin rfl (PySem.evalArgs_none (q1 pins s1 u I1 rx))⟩
/-- o.join(..), o.index(..), .. -/
theorem cf_bme (xw : XW X W) (b : Bm) (mc : MC X eo (bmN b) apos e es' cpos) (ho : PE X eo (tMT W g0 H0 Wx (evT W.T (callN W.T n) a))) (ha : PA X (e :: es') (tMAT W g0 H0 Wx (evTs W.T (callN W.T n) es))) :
    PE X (.Call (.Attribute eo (bmN b) apos) (e :: es') [] cpos) (tM W g0 H0 Wx (ev W.T (callN W.T n) (.bme b a es))) :=
  pe_dyn mc ho ha fun σ H Q ⟨env, st, g, si, af⟩ => by
    simp only [ev] at af
    refine ⟨env, st, g, si, af.bind.imp fun d st1 g1 H1 l1 si1 af1 x rx => ?_⟩
    split at af1
    · rename_i hb
      refine ⟨bmT b d, bmId b (bmT b d), bm_facts b d, fun pins s u I ru => is_bm xw I ru si1 rx hb, env, st1, g1, si1, ?_⟩
      exact (Aft.bind (r := evTs W.T (callN W.T n) es env st1) af1).imp fun ds st2 g2 H2 l2 si2 af2 vs rvs pins s u us I ru rus => bm_run xw b I ru rus si2 (rx.mono l2) rvs af2
    · exact af1.elim
theorem cf_bme0 (xw : XW X W) (b : Bm) (base : attributeBase eo (bmN b) X.env (eval eo X.env) = eval eo X.env) (line : (apos.endLine == cpos.line) = true) (ho : PE X eo (tMT W g0 H0 Wx (evT W.T (callN W.T n) a))) :
    PE X (.Call (.Attribute eo (bmN b) apos) [] [] cpos) (tM W g0 H0 Wx (ev W.T (callN W.T n) (.bme b a .nil))) :=
  pe_dyn0 base line ho fun σ H Q ⟨env, st, g, si, af⟩ => by
    simp only [ev, evTs] at af
    refine ⟨env, st, g, si, af.bind.imp fun d st1 g1 H1 l1 si1 af1 x rx => ?_⟩
    split at af1
    · rename_i hb
      exact ⟨bmT b d, bmId b (bmT b d), bm_facts b d, fun pins s u I ru => is_bm xw I ru si1 rx hb, fun pins s u I ru => bm_run xw b I ru .nil si1 rx .nil af1⟩
    · exact af1.elim
theorem mutOk_inv {m : Mu} {d : D} {st : Sto} (h : mutOk m d st = true) : ∃ k x, d = .ref k ∧ st[k]? = some x ∧ ((∃ l, x = .lst l ∧ isLm m = true) ∨ ∃ l, x = .dct l ∧ isLm m = false) := by
  unfold mutOk at h
  split at h
  · split at h
    · rename_i l hl
      exact ⟨_, _, rfl, hl, .inl ⟨l, rfl, h⟩⟩
    · rename_i l hl
      exact ⟨_, _, rfl, hl, .inr ⟨l, rfl, by simpa using h⟩⟩
    · cases h
  · cases h
theorem is_mut {pins : List (Addr × Obj)} {σ σ' : St} {H : Hp} {s : Shared} {env : Env} {st : Sto} {g : Gh} {x : V} {u : Value} {d : D} {m : Mu} (I : Inv X pins σ' H s) (rx : RelV x u) (si : SI W g0 H0 env st g σ H) (r : RV g x d) (hb : mutOk m d st = true) : Is s u (muTy m) := by
  obtain ⟨k, o, ed, eo, hc⟩ := mutOk_inv hb
  subst ed
  obtain ⟨a, ea, hm, hmu, so⟩ := si.at_ r eo
  subst ea
  cases (show u = Value.ref a from rx)
  rcases hc with ⟨l, e, hl⟩ | ⟨l, e, hl⟩
  · subst e
    obtain ⟨vs, h1, _⟩ := so
    unfold muTy
    rw [hl]
    exact is_lst I h1
  · subst e
    obtain ⟨uo, h1, h2⟩ := so
    unfold muTy
    rw [hl]
    exact is_dct I (.of h1) h2
/-- the kind of a store object never changes: what was a list is none but a list -/
theorem mutR_kind {m : Mu} {σ : St} {env : Env} {st : Sto} {g : Gh} {k : Nat} {ds : List D} {Q : VK} (af : Aft W g0 H0 Wx env σ g (mutR m (.ref k) ds st) (Val Q)) : ∀ x, st[k]? = some x → (∃ l, x = .lst l ∧ isLm m = true) ∨ ∃ l, x = .dct l ∧ isLm m = false := by
  intro x hx
  unfold mutR at af
  simp only [hx] at af
  cases x with
  | lst l =>
    refine .inl ⟨l, rfl, ?_⟩
    cases m <;> first | rfl | exact af.elim
  | dct l =>
    refine .inr ⟨l, rfl, ?_⟩
    cases m <;> first | rfl | exact af.elim
  | lck l => exact af.elim
  | ins c fs => exact af.elim
theorem cf_mut (xw : XW X W) (m : Mu) (mc : MC X eo (muN m) apos e es' cpos) (ho : PE X eo (tM W g0 H0 Wx (ev W.T (callN W.T n) a))) (ha : PA X (e :: es') (tMA W g0 H0 Wx (evs W.T (callN W.T n) es))) :
    PE X (.Call (.Attribute eo (muN m) apos) (e :: es') [] cpos) (tM W g0 H0 Wx (ev W.T (callN W.T n) (.mut m a es))) :=
  pe_dyn mc ho ha fun σ H Q ⟨env, st, g, si, af⟩ => by
    simp only [ev] at af
    refine ⟨env, st, g, si, af.bind.imp fun d st1 g1 H1 l1 si1 af1 x rx => ?_⟩
    split at af1
    · rename_i hb
      refine ⟨muTy m, muId m, mu_facts m, fun pins s u I ru => is_mut I ru si1 rx hb, env, st1, g1, si1, ?_⟩
      obtain ⟨k, _, ed, _⟩ := mutOk_inv hb
      subst ed
      exact (Aft.bind (r := evs W.T (callN W.T n) es env st1) af1).imp fun ds st2 g2 H2 l2 si2 af2 vs rvs pins s u us I ru rus => mut_run xw I ru si2 (rx.mono l2) rus rvs (fun k' ek x hx => by cases ek; exact mutR_kind af2 x hx) af2
    · exact af1.elim
theorem cf_mut0 (xw : XW X W) (m : Mu) (base : attributeBase eo (muN m) X.env (eval eo X.env) = eval eo X.env) (line : (apos.endLine == cpos.line) = true) (ho : PE X eo (tM W g0 H0 Wx (ev W.T (callN W.T n) a))) :
    PE X (.Call (.Attribute eo (muN m) apos) [] [] cpos) (tM W g0 H0 Wx (ev W.T (callN W.T n) (.mut m a .nil))) :=
  pe_dyn0 base line ho fun σ H Q ⟨env, st, g, si, af⟩ => by
    simp only [ev, evs] at af
    refine ⟨env, st, g, si, af.bind.imp fun d st1 g1 H1 l1 si1 af1 x rx => ?_⟩
    split at af1
    · rename_i hb
      obtain ⟨k, _, ed, _⟩ := mutOk_inv hb
      subst ed
      exact ⟨muTy m, muId m, mu_facts m, fun pins s u I ru => is_mut I ru si1 rx hb, fun pins s u I ru => mut_run xw I ru si1 rx .nil .nil (fun k' ek x hx => by cases ek; exact mutR_kind af1 x hx) af1⟩
    · exact af1.elim
def tOwn (W : Wld) (g0 : Gh) (H0 : Hp) (Wx : WX) (x : Nat) (m : Mu) (f : Env → Sto → R (List D)) : TE := fun σ H Q => ∃ env st g, SI W g0 H0 env st g σ H ∧ (∃ d, env[x]? = some (.ow d) ∧ ((∃ l, d = .lst l ∧ isLm m = true) ∨ ∃ l, d = .dct l ∧ isLm m = false)) ∧
  Aft W g0 H0 Wx env σ g (f env st) (fun ds st1 g1 _ => ∃ d d', env[x]? = some (.ow d) ∧ ownStep m d ds = some d' ∧ ∀ H' v, SI W g0 H0 (env.set x (.ow d')) st1 g1 σ H' → Q v H')
theorem own_run (xw : XW X W) {m : Mu} {pins : List (Addr × Obj)} {σ σ' : St} {H : Hp} {s : Shared} {env : Env} {st : Sto} {g : Gh} {Q : VK} {x : Nat} {ad : Addr} {d d' : D} {xs : List V} {us : List Value} {ds : List D} (I : Inv X pins σ' H s) (si : SI W g0 H0 env st g σ H) (e : env[x]? = some (.ow d)) (es : σ[x]? = some (some (.ref ad)))
    (rs : Vals xs us) (rd : RVs g xs ds) (hst : ownStep m d ds = some d') (k : ∀ H' v, SI W g0 H0 (env.set x (.ow d')) st g σ H' → Q v H') : wpAny (model X.prog X.w) X.A (call (.builtin (muId m)) (.ref ad :: us)) (EP X pins σ' Q) X.xe s := by
  obtain ⟨h1, h2, h3, h4⟩ := si.ownAt e es
  cases d with
  | lst l =>
    simp only [ownStep, Option.map_eq_some_iff] at hst
    obtain ⟨⟨v', l'⟩, e1, e2⟩ := hst
    subst e2
    obtain ⟨vs, q1, q2⟩ := h4
    have hm : isLm m = true := by cases m <;> first | rfl | (cases e1)
    exact mutL_run xw hm I si q1 q2 rs rd e1 fun w vs' rw' rl' => k _ w (si.ownPut e es ⟨vs', upd_same, rl'⟩)
  | dct l =>
    simp only [ownStep, Option.map_eq_some_iff] at hst
    obtain ⟨⟨v', l'⟩, e1, e2⟩ := hst
    subst e2
    obtain ⟨uo, q1, q2⟩ := h4
    have hm : isLm m = false := by cases m <;> first | rfl | (cases e1)
    refine mutD_run xw hm I si h1 q1 q2 rs rd e1 fun w H' rw' hc => ?_
    rcases hc with ⟨z1, z2⟩ | ⟨u', z1, dd'⟩
    · subst z1 z2
      have : env.set x (.ow (.dct l')) = env := by
        apply List.ext_getElem?
        intro j
        by_cases hj : j = x
        · subst hj
          rw [List.getElem?_set_self (List.getElem?_eq_some_iff.mp e).1, e]
        · rw [List.getElem?_set_ne (Ne.symm hj)]
      exact k _ w (by rw [this]; exact si)
    · subst z1
      exact k _ w (si.ownPut e es ⟨u', upd_same, dd'⟩)
  | _ => cases hst
theorem cf_own (xw : XW X W) {x : Nat} {xn : Str} {p : Pos} (hN : X.N[x]? = some xn) (hv : Vis X.env.scope xn) (hd : (xn == ("__debug__" : Str)) = false) (hcd : (xn == ("__classdict__" : Str)) = false) (m : Mu) (mc : MC X (.Name xn p) (muN m) apos e es' cpos)
    (ha : PA X (e :: es') (tMA W g0 H0 Wx (evs W.T (callN W.T n) es))) : PE X (.Call (.Attribute (.Name xn p) (muN m) apos) (e :: es') [] cpos) (tOwn W g0 H0 Wx x m (evs W.T (callN W.T n) es)) :=
  pe_dyn mc (pe_var hN hv hd hcd) ha fun σ H Q ⟨env, st, g, si, ⟨d, he, hk⟩, af⟩ => by
    have hl : x < σ.length := by rw [← si.er.len]; exact (List.getElem?_eq_some_iff.mp he).1
    obtain ⟨ad, ea, _⟩ := si.er.sl x _ _ he (List.getElem?_eq_getElem hl)
    have es : σ[x]? = some (some (.ref ad)) := by rw [List.getElem?_eq_getElem hl, ea]
    obtain ⟨h1, h2, h3, h4⟩ := si.ownAt he es
    refine ⟨_, es, muTy m, muId m, mu_facts m, fun pins s u I ru => ?_, env, st, g, si, af.imp fun ds st1 g1 H1 l1 si1 ⟨d1, d', e1, e2, k⟩ vs rvs pins s u us I ru rus => ?_⟩
    · cases (show u = Value.ref ad from ru)
      unfold muTy
      rcases hk with ⟨l, ed, hl⟩ | ⟨l, ed, hl⟩
      · subst ed
        rw [hl]
        obtain ⟨vs, q, _⟩ := h4
        exact is_lst I q
      · subst ed
        rw [hl]
        obtain ⟨uo, q, q2⟩ := h4
        exact is_dct I (.of q) q2
    · cases (show u = Value.ref ad from ru)
      exact own_run xw I si1 e1 es rus rvs e2 k
end
end CF
/-! CFIter -/
/-! What is walked; targets. -/
namespace CF
open PySem PySem.Spec L2
section
variable {X : Cx} {W : Wld} {n : Nat} {g0 : Gh} {H0 : Hp} {Wx : WX} {env : Env} {σ σ' : St} {st : Sto} {g : Gh} {H : Hp}
/-- what an iterator yields: a value, or a tuple that is taken apart at once -/
def YR (W : Wld) (u : Bool) (g : Gh) (H : Hp) (x : V) (d : D) : Prop := if u then ∃ a xs ds, x = .ref a ∧ d = .tup ds ∧ SqT W.K H a xs ∧ RVs g xs ds else RV g x d
/-- the iterator yields these, whatever is done meanwhile -/
def JV (W : Wld) (u : Bool) (J : It) (l : List D) (g1 : Gh) : Prop := ∀ (i : Nat) g0 H0 env st g σ H, Gh.le g1 g → SI W g0 H0 env st g σ H →
  (∀ d, l[i]? = some d → J.go i H ∧ ∀ x H2, J.yld i H x H2 → SI W g0 H0 env st g σ H2 ∧ YR W u g H2 x d) ∧ (l.length = i → J.stop i H)
/-- a list of the store, as it stands at each turn -/
def JA (W : Wld) (J : It) (k : Nat) (g1 : Gh) : Prop := ∀ (i : Nat) g0 H0 env st g σ H, Gh.le g1 g → SI W g0 H0 env st g σ H → ∀ l, lstAt st k = some l →
  (∀ d, l[i]? = some d → J.go i H ∧ ∀ x H2, J.yld i H x H2 → SI W g0 H0 env st g σ H2 ∧ RV g x d) ∧ (l[i]? = none → J.stop i H)
def JS (W : Wld) (u : Bool) (J : It) (src : Src) (g1 : Gh) : Prop := match src with
  | .val l => JV W u J l g1 ∧ l.length ≤ sizeLine
  | .at k n => u = false ∧ JA W J k g1 ∧ n ≤ sizeLine
/-- what is walked, evaluated -/
def tI (W : Wld) (g0 : Gh) (H0 : Hp) (Wx : WX) (u : Bool) (m : Env → Sto → R Src) : TI := fun σ H R => ∃ env st g, SI W g0 H0 env st g σ H ∧ Aft W g0 H0 Wx env σ g (m env st) (fun src _ g' H' => ∀ J, JS W u J src g' → R J H')
theorem _root_.L2.PI.imp' {tg iter : Expr} {t t' : TI} (h : PI X tg iter t) (k : ∀ σ H R, t' σ H R → t σ H R) : PI X tg iter t' := ⟨fun pins s σ H R I q => h.run pins s σ H R I (k σ H R q)⟩
/-- over a list or a tuple -/
theorem rs_at {vs : List V} {l : List D} (p : RVs g vs l) {i : Nat} {d : D} (e : l[i]? = some d) : ∃ v, vs[i]? = some v ∧ RV g v d := pairedGet p e
theorem jv_list (ok : W.Ok0) {a : Addr} {l : List D} {g1 : Gh} (r : RV g1 (.ref a) (.lst l)) : JV W false (Itl W.K a) l g1 := by
  intro i g0 H0 env st g σ H le si
  obtain ⟨a', vs, ea, h1, h2⟩ := si.lstV ok (r.mono le)
  cases ea
  refine ⟨fun d hd => ?_, fun hl => ⟨vs, .of h1, by rw [pairedLen h2]; exact Nat.le_of_eq hl⟩⟩
  obtain ⟨v, hv, rv⟩ := rs_at h2 hd
  refine ⟨⟨vs, v, .of h1, hv⟩, fun x H2 ⟨e, hx⟩ => ?_⟩
  subst e
  have := hx vs (.of h1)
  rw [hv] at this
  cases this
  exact ⟨si, rv⟩
theorem sqT_inj {X : Cx} {pins : List (Addr × Obj)} {s : Shared} (I : Inv X pins σ H s) {a : Addr} {xs ys : List V} (h : SqT X.K H a xs) (h' : SqT X.K H a ys) : xs = ys := I.tuple_inj h h'
theorem jv_tup (ok : W.Ok0) {a : Addr} {l : List D} {g1 : Gh} (r : RV g1 (.ref a) (.tup l)) : JV W false (Itt W.K a) l g1 := by
  intro i g0 H0 env st g σ H le si
  obtain ⟨a', vs, ea, h1, h2⟩ := si.tup ok (r.mono le)
  cases ea
  refine ⟨fun d hd => ?_, fun hl => ⟨vs, h1, by rw [pairedLen h2]; exact Nat.le_of_eq hl⟩⟩
  obtain ⟨v, hv, rv⟩ := rs_at h2 hd
  refine ⟨⟨vs, v, h1, hv⟩, fun x H2 ⟨e, hx⟩ => ?_⟩
  subst e
  have := hx vs h1
  rw [hv] at this
  cases this
  exact ⟨si, rv⟩
theorem jv_scr {a : Addr} {l : List Int} {g1 : Gh} (r : g1.sc = some (a, l)) : JV W false (Itl W.K a) (l.map .int) g1 := by
  intro i g0 H0 env st g σ H le si
  have h1 := (si.hs.sc a l (le.sc.trans r)).sq
  refine ⟨fun d hd => ?_, fun hl => ⟨_, h1, Nat.le_of_eq (by simpa using hl)⟩⟩
  rw [List.getElem?_map] at hd
  cases hk : l[i]? with
  | none => rw [hk] at hd; cases hd
  | some k =>
    rw [hk] at hd
    cases hd
    refine ⟨⟨_, .int k, h1, by rw [List.getElem?_map, hk]; rfl⟩, fun x H2 ⟨e, hx⟩ => ?_⟩
    subst e
    have := hx _ h1
    rw [List.getElem?_map, hk] at this
    cases this
    exact ⟨si, rfl⟩
theorem jv_str {y : List Nat} {g1 : Gh} (ok : okS y) : JV W false (Its (toS y)) (y.map fun c => .str [c]) g1 := by
  intro i g0 H0 env st g σ H le si
  have hat : ∀ j : Nat, (toS y).cps[j]? = y[j]? := fun j => by simp [toS]
  refine ⟨fun d hd => ?_, fun hl => ?_⟩
  · rw [List.getElem?_map] at hd
    cases e : y[i]? with
    | none => rw [e] at hd; cases hd
    | some c =>
      rw [e] at hd
      cases hd
      have hi : i < y.length := (List.getElem?_eq_some_iff.mp e).1
      refine ⟨by show i < (toS y).cps.size; simpa [toS] using hi, fun x H2 ⟨eH, c', hc, ex⟩ => ?_⟩
      subst eH ex
      rw [hat, e] at hc
      cases hc
      refine ⟨si, ?_, fun c2 h2 => ?_⟩
      · simp [toS]
      · rw [List.mem_singleton.mp h2]
        exact ok c (List.mem_of_getElem? e)
  · rw [List.length_map] at hl
    show (toS y).cps.size ≤ i
    simp [toS, hl]
theorem ja_lst {a : Addr} {k : Nat} {g1 : Gh} (r : g1.mu[k]? = some a) : JA W (Itl W.K a) k g1 := by
  intro i g0 H0 env st g σ H le si l hl
  obtain ⟨a', vs, ea, h1, h2⟩ := si.slst (show RV g (.ref a) (.ref k) from le.mu _ _ r) hl
  cases ea
  refine ⟨fun d hd => ?_, fun hn => ⟨vs, .of h1, by rw [pairedLen h2]; exact List.getElem?_eq_none_iff.mp hn⟩⟩
  obtain ⟨v, hv, rv⟩ := rs_at h2 hd
  refine ⟨⟨vs, v, .of h1, hv⟩, fun x H2 ⟨e, hx⟩ => ?_⟩
  subst e
  have := hx vs (.of h1)
  rw [hv] at this
  cases this
  exact ⟨si, rv⟩
theorem rangeD_at {lo : Int} {n i : Nat} {d : D} (h : (rangeD lo n)[i]? = some d) : i < n ∧ d = .int (lo + i) := by
  unfold rangeD at h
  rw [List.getElem?_map] at h
  cases hr : (List.range n)[i]? with
  | none => rw [hr] at h; cases h
  | some j =>
    rw [hr] at h
    cases h
    have hi : i < n := by simpa using (List.getElem?_eq_some_iff.mp hr).1
    rw [List.getElem?_range hi] at hr
    cases hr
    exact ⟨hi, rfl⟩
theorem jv_rng {lo : Int} {n : Nat} {g1 : Gh} : JV W false (Itr lo n) (rangeD lo n) g1 := by
  intro i g0 H0 env st g σ H le si
  refine ⟨fun d hd => ?_, fun hl => (by have hl' : n = i := by simpa [rangeD] using hl
                                        exact Nat.le_of_eq hl')⟩
  obtain ⟨h1, h2⟩ := rangeD_at hd
  subst h2
  exact ⟨h1, fun x H2 ⟨e, hx⟩ => by subst e hx; exact ⟨si, rfl⟩⟩
/-! ### over a dict that stands: it is locked at its first walk -/
/-- a dict's keys are so many -/
def KeysN (P : Program) (w : World) (d : Addr) (u : HO) (n : Nat) : Prop := (∃ kvs, u = .dK kvs ∧ kvs.length = n) ∨ ∃ xs, u = DTO P w d xs ∧ xs.length = n ∧ (d == sysModules) = false
/-- its key at i -/
def KeyAt (P : Program) (w : World) (d : Addr) (u : HO) (i : Nat) (x : V) : Prop := (∀ kvs, u = .dK kvs → ∃ k v, kvs[i]? = some (k, v) ∧ x = kV k) ∧ ∀ xs, u = DTO P w d xs → ∃ p, xs[i]? = some p ∧ x = .ref p.2.1
def Jd (P : Program) (w : World) (d : Addr) (o : Obj) (n : Nat) : It :=
  ⟨fun i H => i < n ∧ ∃ u, H d = some (.frz o u) ∧ KeysN P w d u n, fun i H x H' => H' = H ∧ ∀ u, H d = some (.frz o u) → KeyAt P w d u i x, fun i H => n ≤ i ∧ ∃ u, H d = some (.frz o u) ∧ KeysN P w d u n⟩
theorem frz_one {d : Addr} {o : Obj} {u u2 : HO} (h : H d = some (.frz o u)) (h2 : H d = some (.frz o u2)) : u2 = u := by
  rw [h] at h2
  cases h2
  rfl
/-- the locked dict's object -/
theorem frzD {pins : List (Addr × Obj)} {s : Shared} {d : Addr} {o : Obj} {u : HO} {m : Nat} (I : Inv X pins σ H s) (h : H d = some (.frz o u)) (k : KeysN X.prog X.w d u m) :
    (d == sysModules) = false ∧ s.heap.get? d = some o ∧ o.ExactDict ∧ ∃ (es : Array DictEntry) (ep : Nat), o.data = .dict es ep ∧ es.size = m := by
  rcases k with ⟨kvs, e, hn⟩ | ⟨xs, e, hn, hs⟩
  · subst e
    obtain ⟨hs, hgd, hx, es, ep, vs, hdt, hsz, _, _⟩ := I.frzK h
    exact ⟨hs, hgd, hx, es, ep, hdt, hsz.trans hn⟩
  · subst e
    obtain ⟨hgd, ⟨o', es, ep, ho, hx, hdt, he⟩, _⟩ := I.hok d _ h
    rw [hgd] at ho
    cases ho
    refine ⟨hs, hgd, hx, es, ep, hdt, ?_⟩
    have := congrArg List.length he
    rw [Array.length_toList, List.length_map] at this
    exact this.trans hn
theorem turn_d {P : Program} {w : World} {K : PySem.W.Frag} {tg : Expr} {d : Addr} {o : Obj} {es : Array DictEntry} {ep m : Nat} (it : Addr) (hod : o.data = .dict es ep) : Turn P w K tg (Jd P w d o m) [it] it (fun i h => h.IsKeyIter it d i m ep) where
  mem := List.mem_singleton.mpr rfl
  obj := fun i h st b hb => by
    cases List.mem_singleton.mp hb
    obtain ⟨oi, e, _, dd⟩ := st
    exact ⟨oi, e, fun v z => by rw [dd] at z; cases z⟩
  keep := fun i h h' ⟨oi, e, r⟩ k => ⟨oi, k it (List.mem_singleton.mpr rfl) oi e, r⟩
  item := by
    intro X hP hw hK hc i pins s σ H E I hf st ⟨hi, u, hd, hk⟩
    subst hP hw hK
    obtain ⟨f0, f1, f2, f3, f4, f5⟩ := hf it (List.mem_singleton.mpr rfl)
    have fin : ∀ (y : Value) (x : V) (h' : Heap), RelV x y → KeyAt X.prog X.w d u i x → h'.IsKeyIter it d (i + 1) m ep → Heap.SameBut it s.heap h' →
        wpAny (model X.prog X.w) X.A (letOwnedTupleGo tg (.ref it) y) (fun _ s2 => ∃ x H', Inv X pins σ H' s2 ∧ RelV x y ∧ (Jd X.prog X.w d o m).yld i H x H' ∧ s2.heap.IsKeyIter it d (i + 1) m ep ∧ ∀ b ∈ [it], H' b = none) E { s with heap := h' } := fun y x h' rx ka st' sb => by
      obtain ⟨oi, e, c, dd⟩ := id st'
      exact go_of (s := { s with heap := h' }) e c dd (by decide) ⟨x, H, I.turned (t' := s.toks) (fun b ob hb e => (sb.2 b hb).trans e) f0 f1 f3 f4 f5, rx, ⟨rfl, fun u2 h2 => by rw [frz_one hd h2]; exact ka⟩, st', fun b hb => (hf b hb).1⟩
    rcases id hk with ⟨kvs, e, hn⟩ | ⟨xs, e, hn, hs⟩
    · subst e
      obtain ⟨hs, hgd, hx, es', ep', vs, hdt, hsz, kv, hm⟩ := I.frzK hd
      obtain ⟨rfl, rfl⟩ := dict_ep hod hdt
      obtain ⟨p, hp⟩ : ∃ p, kvs[i]? = some p := ⟨_, List.getElem?_eq_getElem (by rw [hn]; exact hi)⟩
      obtain ⟨v, hv, rv⟩ := kv_get kv (k := p.1) (v := p.2) hp
      have hl : m = vs.length := hn.symm.trans (Paired.length kv)
      rw [hl] at st
      refine wpAny_pyNext_dict_item st hm hv fun key h' hkey st' sb => ⟨key, rfl, ?_⟩
      rw [← hl] at st'
      exact fin key (kV p.1) h' (relV_key (show keyIs p.1 key = true from hkey)) ⟨fun kvs2 e2 => by cases e2; exact ⟨p.1, p.2, hp, rfl⟩, fun xs2 e2 => by cases e2⟩ st' sb
    · subst e
      obtain ⟨_, hgd, _, es', ep', hdt, hsz⟩ := frzD I hd hk
      obtain ⟨rfl, rfl⟩ := dict_ep hod hdt
      have hes : ∀ xs2, DTO X.prog X.w d xs = DTO X.prog X.w d xs2 → es'.toList = xs2.map (entryOfKey (nestedKind X.prog X.w)) := fun xs2 e2 => by
        have hd2 := hd
        rw [e2] at hd2
        obtain ⟨_, ⟨o', es2, ep2, ho2, _, hdt2, he2⟩, _⟩ := I.hok d _ hd2
        rw [hgd] at ho2
        cases ho2
        obtain ⟨rfl, _⟩ := dict_ep hdt hdt2
        exact he2
      obtain ⟨p, hp⟩ : ∃ p, xs[i]? = some p := ⟨_, List.getElem?_eq_getElem (by rw [hn]; exact hi)⟩
      have hen : ∀ xs2, DTO X.prog X.w d xs = DTO X.prog X.w d xs2 → ∀ q, xs2[i]? = some q → es'[i]? = some (entryOfKey (nestedKind X.prog X.w) q) := fun xs2 e2 q hq => by
        rw [← Array.getElem?_toList, hes xs2 e2, List.getElem?_map, hq]
        rfl
      refine next_key_item st hgd hdt hsz (hen xs rfl p hp) fun h' st' sb => ⟨_, rfl, ?_⟩
      refine fin _ (.ref p.2.1) h' rfl ⟨fun kvs2 e2 => (by cases e2), fun xs2 e2 => ?_⟩ st' sb
      have hl2 : xs2.length = xs.length := by
        have h1 := congrArg List.length (hes xs rfl)
        have h2 := congrArg List.length (hes xs2 e2)
        rw [List.length_map] at h1 h2
        exact h2.symm.trans h1
      obtain ⟨q, hq⟩ : ∃ q, xs2[i]? = some q := ⟨_, List.getElem?_eq_getElem (by rw [hl2, hn]; exact hi)⟩
      have e3 := (hen xs rfl p hp).symm.trans (hen xs2 e2 q hq)
      refine ⟨q, hq, ?_⟩
      have e4 : (entryOfKey (nestedKind X.prog X.w) p).key = (entryOfKey (nestedKind X.prog X.w) q).key := congrArg DictEntry.key (Option.some.inj e3)
      have e5 : p.2.1 = q.2.1 := by injection (show Value.ref p.2.1 = Value.ref q.2.1 from e4)
      rw [e5]
  done := by
    intro X hP hw hK hc i pins s σ H E I hf st ⟨hi, u, hd, hk⟩
    subst hP hw hK
    obtain ⟨f0, f1, f2, f3, f4, f5⟩ := hf it (List.mem_singleton.mpr rfl)
    obtain ⟨_, hgd, _, es', ep', hdt, hsz⟩ := frzD I hd hk
    obtain ⟨rfl, rfl⟩ := dict_ep hod hdt
    exact next_key_end (I.ok.hd hc) st hgd hdt hsz hi fun h' eb => ⟨rfl, I.turned (t' := s.toks) (fun b ob hb e => eb b ob hb e) f0 f1 f3 f4 f5⟩
  self := fun A i s Q E st h => wpAny_pyIter_keyiter st h
/-- a dict is locked -/
def Gh.addL (g : Gh) (a : Addr) (o : Obj) : Gh := { g with lk := fun b => if b = a then some o else g.lk b }
theorem upd_self {a : Addr} {o : HO} (h : H a = some o) : upd H a o = H := by
  funext b
  unfold upd
  split
  · rename_i e; rw [e, h]
  · rfl
theorem dctD_frz {a : Addr} {u : HO} {l : List (D × D)} (h : DctD W g a u l) : ∀ o u', u ≠ .frz o u' := fun o u' e => by
  rcases h with ⟨_, h, _⟩ | ⟨_, h, _⟩ <;> rw [e] at h <;> cases h
theorem SI.lock {a : Addr} {o : Obj} {u : HO} {l : List (D × D)} (si : SI W g0 H0 env st g σ H) (hf : g.fz a = some (.dct l)) (hu : Rd H a u) (hd : DctD W g a u l) (ho : ∀ o', H a = some (.frz o' u) → o' = o) :
    Gh.le g (g.addL a o) ∧ SI W g0 H0 env st (g.addL a o) σ (upd H a (.frz o u)) ∧ (g.addL a o).lk a = some o := by
  have hne : H a ≠ none := si.hs.fa a _ hf
  have hmu : a ∈ g.mu → H a = some (.frz o u) := fun m => by
    obtain ⟨n, hn⟩ := List.mem_iff_getElem?.mp m
    rcases si.hs.mz n a hn with z | ⟨l', z⟩
    · rw [hf] at z; cases z
    · obtain ⟨_, o', u', _, e', _⟩ := si.hs.so n _ a z hn
      rcases hu with q | ⟨o3, q⟩
      · rw [q] at e'; cases e'; exact absurd rfl (dctD_frz hd _ _)
      · rw [q, ho _ q]
  have hlk : ∀ o2, g.lk a = some o2 → o2 = o := fun o2 e => by
    obtain ⟨_, u2, e2⟩ := si.hs.lk a o2 e
    rcases hu with q | ⟨o3, q⟩
    · rw [q] at e2; cases e2; exact absurd rfl (dctD_frz hd _ _)
    · rw [q] at e2; cases e2; exact ho _ q
  have le : Gh.le g (g.addL a o) := ⟨fun _ _ h => h, fun _ _ h => h, rfl, rfl, fun b o2 e => by
    show (if b = a then some o else g.lk b) = some o2
    by_cases hb : b = a
    · subst hb; rw [if_pos rfl, hlk o2 e]
    · rw [if_neg hb]; exact e⟩
  refine ⟨le, si.next ⟨fun b d e => ?_, si.hs.f0, fun b ns e => ?_, si.hs.len, si.hs.nd, fun i x b e1 e2 => ?_, si.hs.mz, fun b d e => ?_, fun b m => ?_, fun b o2 e => ?_⟩ ⟨le, fun b o2 e m => ?_, fun _ _ _ => rfl, fun _ _ m => m, fun b e => ?_⟩, if_pos rfl⟩
  · by_cases hb : b = a
    · subst hb
      have e' : g.fz b = some d := e
      rw [hf] at e'
      cases e'
      exact ⟨u, .inr ⟨o, upd_same⟩, hd.mono le⟩
    · exact (si.hs.fz b d e).at (upd_ne hb) le
  · refine (si.hs.sc b ns e).at (fun o2 u2 _ q => ?_) fun _ _ _ q => q
    by_cases hb : b = a
    · subst hb
      rcases hu with z | ⟨o3, z⟩
      · rw [z] at q; cases q; exact absurd rfl (dctD_frz hd _ _)
      · rw [z] at q; cases q; rw [upd_same, ho _ z]
    · rw [upd_ne hb]; exact q
  · by_cases hb : b = a
    · subst hb
      exact (si.hs.so i x b e1 e2).at (by rw [upd_same, hmu (List.mem_of_getElem? e2)]) le
    · exact (si.hs.so i x b e1 e2).at (upd_ne hb) le
  · by_cases hb : b = a
    · rw [hb, upd_same]; simp
    · rw [upd_ne hb]; exact si.hs.fa b d e
  · by_cases hb : b = a
    · rw [hb, upd_same]; simp
    · rw [upd_ne hb]; exact si.hs.ma b m
  · by_cases hb : b = a
    · subst hb
      have e' : (if b = b then some o else g.lk b) = some o2 := e
      rw [if_pos rfl] at e'
      cases e'
      exact ⟨⟨l, hf⟩, u, upd_same⟩
    · have e' : (if b = a then some o else g.lk b) = some o2 := e
      rw [if_neg hb] at e'
      rw [upd_ne hb]
      exact si.hs.lk b o2 e'
  · by_cases hb : b = a
    · subst hb
      rcases hu with z | ⟨o3, z⟩
      · rw [z] at e; cases e
        exact .inr ⟨⟨l, hf⟩, dctD_frz hd, o, upd_same⟩
      · rw [z] at e; cases e
        exact .inl (by rw [upd_same, ho _ z])
    · rw [upd_ne hb]; exact .inl e
  · by_cases hb : b = a
    · rw [hb, upd_same]; simp
    · rw [upd_ne hb]; exact e
/-- a dict of the store is locked -/
theorem SI.lockS {a : Addr} {n : Nat} {o : Obj} {u : HO} {l : List (D × D)} (si : SI W g0 H0 env st g σ H) (hn : g.mu[n]? = some a) (hst : st[n]? = some (.dct l)) (hu : H a = some u) (hd : DctD W g a u l) :
    Gh.le g ((g.addF a (.dct l)).addL a o) ∧ SI W g0 H0 env (st.set n (.lck l)) ((g.addF a (.dct l)).addL a o) σ (upd H a (.frz o u)) ∧ ((g.addF a (.dct l)).addL a o).fz a = some (.dct l) ∧ ((g.addF a (.dct l)).addL a o).lk a = some o := by
  have ha : a ∈ g.mu := List.mem_of_getElem? hn
  have hf : g.fz a = none := (si.hs.mz n a hn).resolve_right fun ⟨l', z⟩ => by rw [hst] at z; cases z
  have hlk : g.lk a = none := by
    cases e : g.lk a with
    | none => rfl
    | some o2 =>
      obtain ⟨⟨l', z⟩, _⟩ := si.hs.lk a o2 e
      rw [hf] at z; cases z
  have inj : ∀ (i : Nat), g.mu[i]? = some a → i = n := fun i e => by
    obtain ⟨h1, e1⟩ := List.getElem?_eq_some_iff.mp e
    obtain ⟨h2, e2⟩ := List.getElem?_eq_some_iff.mp hn
    exact (List.getElem_inj si.hs.nd).mp (e1.trans e2.symm)
  have le : Gh.le g ((g.addF a (.dct l)).addL a o) := (addF_le hf).trans ⟨fun _ _ h => h, fun _ _ h => h, rfl, rfl, fun b o2 e => by
    show (if b = a then some o else g.lk b) = some o2
    by_cases hb : b = a
    · subst hb
      have e' : g.lk b = some o2 := e
      rw [hlk] at e'; cases e'
    · rw [if_neg hb]; exact e⟩
  have fzN : ∀ b, b ≠ a → ((g.addF a (.dct l)).addL a o).fz b = g.fz b := fun b hb => addF_ne hb
  have fzA : ((g.addF a (.dct l)).addL a o).fz a = some (.dct l) := addF_at
  have lkN : ∀ b, b ≠ a → ((g.addF a (.dct l)).addL a o).lk b = g.lk b := fun b hb => if_neg hb
  have lkA : ((g.addF a (.dct l)).addL a o).lk a = some o := if_pos rfl
  refine ⟨le, si.next ⟨fun b d e => ?_, si.hs.f0, fun b ns e => ?_, ?_, si.hs.nd, fun i x b e1 e2 => ?_, fun i b e => ?_, fun b d e => ?_, fun b m => ?_, fun b o2 e => ?_⟩ ⟨le, fun b o2 e m => ?_, fun b e m => ?_, fun _ _ m => m, fun b e => ?_⟩, fzA, lkA⟩
  · by_cases hb : b = a
    · subst hb
      rw [fzA] at e
      cases e
      exact ⟨u, .inr ⟨o, upd_same⟩, hd.mono le⟩
    · rw [fzN b hb] at e
      exact (si.hs.fz b d e).at (upd_ne hb) le
  · exact (si.hs.sc b ns e).at (fun o2 u2 nm q => by rw [upd_ne fun z => nm (by rw [z]; exact ha)]; exact q) fun _ _ _ q => q
  · rw [List.length_set]; exact si.hs.len
  · by_cases hi : i = n
    · subst hi
      have e2' : g.mu[i]? = some b := e2
      rw [hn] at e2'; cases e2'
      rw [List.getElem?_set_self (List.getElem?_eq_some_iff.mp hst).1] at e1
      cases e1
      exact ⟨fzA, o, u, lkA, upd_same, hd.mono le⟩
    · rw [List.getElem?_set_ne (Ne.symm hi)] at e1
      exact (si.hs.so i x b e1 e2).at (upd_ne fun z => hi (inj i (z ▸ e2))) le
  · by_cases hi : i = n
    · subst hi
      exact .inr ⟨l, List.getElem?_set_self (List.getElem?_eq_some_iff.mp hst).1⟩
    · rw [List.getElem?_set_ne (Ne.symm hi), fzN b fun z => hi (inj i (z ▸ e))]
      exact si.hs.mz i b e
  · by_cases hb : b = a
    · rw [hb, upd_same]; simp
    · rw [fzN b hb] at e
      rw [upd_ne hb]; exact si.hs.fa b d e
  · by_cases hb : b = a
    · rw [hb, upd_same]; simp
    · rw [upd_ne hb]; exact si.hs.ma b m
  · by_cases hb : b = a
    · subst hb
      exact ⟨⟨l, fzA⟩, u, by rw [lkA] at e; cases e; exact upd_same⟩
    · rw [lkN b hb] at e
      rw [fzN b hb, upd_ne hb]
      exact si.hs.lk b o2 e
  · exact .inl (by rw [upd_ne fun z => m (by rw [z]; exact ha)]; exact e)
  · exact fzN b fun z => m (by rw [z]; exact ha)
  · by_cases hb : b = a
    · rw [hb, upd_same]; simp
    · rw [upd_ne hb]; exact e
theorem keysN_of {a : Addr} {u : HO} {l : List (D × D)} (h : DctD W g a u l) : KeysN W.P W.w a u l.length := by
  rcases h with ⟨kvs, e, p, _⟩ | ⟨xs, e, p, _, hs, _, _⟩
  · exact .inl ⟨kvs, e, pairedLen p⟩
  · exact .inr ⟨xs, e, pairedLen p, hs⟩
theorem keyAt_of {a : Addr} {u : HO} {l : List (D × D)} (h : DctD W g a u l) {i : Nat} {x : V} (k : KeyAt W.P W.w a u i x) {d : D} (hd : (l.map (·.1))[i]? = some d) : RV g x d := by
  rw [List.getElem?_map] at hd
  cases hq : l[i]? with
  | none => rw [hq] at hd; cases hd
  | some q =>
    rw [hq] at hd
    cases hd
    rcases h with ⟨kvs, e, p, _⟩ | ⟨xs, e, p, _, hs, _, _⟩
    · obtain ⟨k', v, e1, e2⟩ := k.1 kvs e
      obtain ⟨z, hz, ⟨y, ey, ez, ok⟩, _⟩ := pairedGet p hq
      rw [e1] at hz
      cases hz
      subst e2
      simp only at ez
      subst ez
      show RV g (kV (Sum.inr (toS y))) q.1
      rw [ey]
      exact ⟨rfl, ok⟩
    · obtain ⟨z, e1, e2⟩ := k.2 xs e
      obtain ⟨z', hz, _, _, _, r, _⟩ := pairedGet p hq
      rw [e1] at hz
      cases hz
      subst e2
      exact r
theorem jv_dct {a : Addr} {o : Obj} {l : List (D × D)} {g1 : Gh} (hf : g1.fz a = some (.dct l)) (hl : g1.lk a = some o) : JV W false (Jd W.P W.w a o l.length) (l.map (·.1)) g1 := by
  intro i g0 H0 env st g σ H le si
  obtain ⟨u, hu, hd⟩ := si.hs.fz a _ (le.fz _ _ hf)
  obtain ⟨_, u2, e2⟩ := si.hs.lk a o (le.lk _ _ hl)
  have hu2 : H a = some (.frz o u) := by
    rcases hu with q | ⟨o3, q⟩
    · rw [q] at e2; cases e2; exact absurd rfl (dctD_frz hd _ _)
    · have q2 := q; rw [e2] at q2; cases q2; exact q
  refine ⟨fun d hd' => ⟨⟨?_, u, hu2, keysN_of hd⟩, fun x H2 ⟨e, hx⟩ => ?_⟩, fun hl => ⟨?_, u, hu2, keysN_of hd⟩⟩
  · have := (List.getElem?_eq_some_iff.mp hd').1
    rwa [List.length_map] at this
  · subst e
    exact ⟨si, keyAt_of hd (hx u hu2) hd'⟩
  · rw [List.length_map] at hl
    exact Nat.le_of_eq hl
theorem pi_rl {tg iter : Expr} {t t' : TI} : PI X tg iter t → (∀ σ H R, t' σ H R → t σ H R) → PI X tg iter t' := fun h k => h.imp' k
/-- a list or a tuple, told apart by what stands there -/
theorem pi_any {tg l : Expr} {tl : TE} (hl : PE X l tl) : PI X tg l (fun σ H R => tl σ H fun x H1 => (∃ a, x = .ref a ∧ ((∃ xs, SqL X.K H1 a xs ∧ (xs.length ≤ sizeLine → R (Itl X.K a) H1)) ∨ (∃ xs, SqT X.K H1 a xs ∧ (xs.length ≤ sizeLine → R (Itt X.K a) H1)))) ∨ (∃ y, x = .str y ∧ R (Its y) H1) ∨ ∃ a u m, x = .ref a ∧ Rd H1 a u ∧ (∀ o u', u ≠ .frz o u') ∧ KeysN X.prog X.w a u m ∧ ∀ o, (∀ o', H1 a = some (.frz o' u) → o' = o) → R (Jd X.prog X.w a o m) (upd H1 a (.frz o u))) := by
  refine ⟨fun pins s σ H R I h => thn (hl.run pins s σ H _ I h) fun v s1 ⟨x, H1, I1, r1, q0⟩ => ?_⟩
  rcases q0 with ⟨a, e, q1⟩ | ⟨y, e, q⟩ | ⟨a, u, m, e, hu, nf, hk, q⟩
  rotate_left
  rotate_left
  · subst e
    cases (show v = Value.ref a from r1)
    obtain ⟨o, I2, q2⟩ : ∃ o, Inv X pins σ (upd H1 a (.frz o u)) s1 ∧ R (Jd X.prog X.w a o m) (upd H1 a (.frz o u)) := by
      rcases hu with z | ⟨o, z⟩
      · obtain ⟨o, I2⟩ := I1.lock z (by rcases hk with ⟨_, e, _⟩ | ⟨_, e, _⟩ <;> rw [e] <;> trivial)
        exact ⟨o, I2, q o fun o' e => by rw [z] at e; exact absurd (Option.some.inj e) (nf _ _)⟩
      · exact ⟨o, by rw [upd_self z]; exact I1, q o fun o' e => by rw [z] at e; cases e; rfl⟩
    obtain ⟨hs, hgd, hx, es, ep, hdt, hsz⟩ := frzD I2 upd_same hk
    refine iter_keys hs hgd hx hdt (pi_one (tk := s1.toks) I2 _ (turn_d _ hdt) ⟨_, Heap.get?_push_size _ rfl, rfl, ?_⟩ q2)
    rw [hsz]
    rfl
  rotate_left
  · subst e
    obtain ⟨t, rfl⟩ := r1
    cases ha : y.cps.all (· < 128)
    · exact wpAny_pyIter_wide ha (pi_one (tk := s1.toks) I1 _ (turn_str _ y t "str_iterator" (.inr rfl)) ⟨_, Heap.get?_push_size _ rfl, rfl, rfl⟩ q)
    · exact wpAny_pyIter_ascii ha (pi_one (tk := s1.toks) I1 _ (turn_str _ y t "str_ascii_iterator" (.inl rfl)) ⟨_, Heap.get?_push_size _ rfl, rfl, rfl⟩ q)
  subst e
  cases (show v = Value.ref a from r1)
  rcases q1 with ⟨xs, hq, q⟩ | ⟨xs, hq, q⟩
  · obtain ⟨its, rv, p, hz⟩ := I1.list hq
    exact wpAny_pyIter_list p.isList (pi_one I1 _ (turn_list a _) ⟨_, Heap.get?_push_size _ rfl, rfl, rfl⟩ (q hz))
  · obtain ⟨its, rv, p, hz⟩ := I1.tuple hq
    exact wpAny_pyIter_tuple p (pi_one I1 _ (turn_tuple a _) ⟨_, Heap.get?_push_size _ rfl, rfl, rfl⟩ (q hz))
variable {a : E} {es : As} {ea tg : Expr} {pos p : Pos}
theorem ci_sq (xw : XW X W) (ha : PE X ea (tM W g0 H0 Wx (ev W.T (callN W.T n) a))) : PI X tg ea (tI W g0 H0 Wx false (evI W.T (callN W.T n) (.sq a))) :=
  (pi_any ha).imp' fun σ H R ⟨env, st, g, si, af⟩ => by
    simp only [evI] at af
    refine ⟨env, st, g, si, af.bind.imp fun d st1 g1 H1 l1 si1 af1 x rx => ?_⟩
    rw [xw.K]
    cases d with
    | lst l =>
      obtain ⟨p, vs, ep, h1, h2⟩ := si1.lstV xw.ok rx
      subst ep
      exact .inl ⟨p, rfl, .inl ⟨vs, .of h1, fun hz => af1 g1 H1 (.refl g1) si1 _ ⟨jv_list xw.ok rx, by rw [← pairedLen h2]; exact hz⟩⟩⟩
    | tup l =>
      obtain ⟨p, vs, ep, h1, h2⟩ := si1.tup xw.ok rx
      subst ep
      exact .inl ⟨p, rfl, .inr ⟨vs, h1, fun hz => af1 g1 H1 (.refl g1) si1 _ ⟨jv_tup xw.ok rx, by rw [← pairedLen h2]; exact hz⟩⟩⟩
    | scr l =>
      obtain ⟨p, ep, h1⟩ := rx.scr_inv
      subst ep
      exact .inl ⟨p, rfl, .inl ⟨_, (si1.hs.sc p l h1).sq, fun hz => af1 g1 H1 (.refl g1) si1 _ ⟨jv_scr h1, by simpa using hz⟩⟩⟩
    | ref k =>
      simp only [srcR] at af1
      cases ed : dctAt st1 k with
      | some l =>
        rw [ed] at af1
        simp only at af1
        split at af1
        · rename_i hz
          obtain ⟨x', e1, e2⟩ := dctAt_so ed
          obtain ⟨a, ea, hm, _, so⟩ := si1.at_ rx e1
          subst ea
          rcases e2 with e2 | e2
          · subst e2
            obtain ⟨u, hu, hd⟩ := so
            refine .inr (.inr ⟨a, u, l.length, rfl, .of hu, dctD_frz hd, by rw [xw.P, xw.w]; exact keysN_of hd, fun o _ => ?_⟩)
            obtain ⟨le, si2, hf, hl⟩ := si1.lockS (o := o) hm e1 hu hd
            rw [xw.P, xw.w]
            have els : lockS st1 k = st1.set k (.lck l) := by unfold lockS; rw [e1]
            rw [els] at af1
            exact af1 _ _ le si2 _ ⟨jv_dct hf hl, by rw [List.length_map]; exact le_line hz⟩
          · subst e2
            obtain ⟨hf, o, u, hl, hu, hd⟩ := so
            refine .inr (.inr ⟨a, u, l.length, rfl, .inr ⟨o, hu⟩, dctD_frz hd, by rw [xw.P, xw.w]; exact keysN_of hd, fun o2 ho => ?_⟩)
            cases ho o hu
            rw [upd_self hu, xw.P, xw.w]
            have els : lockS st1 k = st1 := by unfold lockS; rw [e1]
            rw [els] at af1
            exact af1 g1 H1 (.refl g1) si1 _ ⟨jv_dct hf hl, by rw [List.length_map]; exact le_line hz⟩
        · exact af1.elim
      | none =>
      rw [ed] at af1
      simp only [srcOf] at af1
      cases e : lstAt st1 k with
      | none => rw [e] at af1; exact af1.elim
      | some l =>
        rw [e] at af1
        obtain ⟨p, vs, ep, h1, h2⟩ := si1.slst rx e
        subst ep
        exact .inl ⟨p, rfl, .inl ⟨vs, .of h1, fun hz => af1 g1 H1 (.refl g1) si1 _ ⟨rfl, ja_lst rx, by rw [← pairedLen h2]; exact hz⟩⟩⟩
    | str y =>
      simp only [srcR, srcOf] at af1
      split at af1
      · rename_i hz
        obtain ⟨e, ok⟩ := rx.str_inv
        subst e
        exact .inr (.inl ⟨_, rfl, af1 g1 H1 (.refl g1) si1 _ ⟨jv_str ok, by rw [List.length_map]; exact le_line hz⟩⟩)
      · exact af1.elim
    | dct l =>
      simp only [srcR, srcOf] at af1
      split at af1
      · rename_i hz
        obtain ⟨a, ea, r⟩ := rx.dct_inv
        subst ea
        have hf : g1.fz a = some (.dct l) := by
          rcases r with r | r
          · exact r
          · rw [si1.hs.f0] at r
            obtain ⟨l', o, its, n, e, _⟩ := xw.ok a _ r
            cases e
        obtain ⟨u, hu, hd⟩ := si1.hs.fz a _ hf
        refine .inr (.inr ⟨a, u, l.length, rfl, hu, dctD_frz hd, by rw [xw.P, xw.w]; exact keysN_of hd, fun o ho => ?_⟩)
        obtain ⟨le, si2, hl⟩ := si1.lock hf hu hd ho
        rw [xw.P, xw.w]
        exact af1 _ _ le si2 _ ⟨jv_dct hf hl, by rw [List.length_map]; exact le_line hz⟩
      · exact af1.elim
    | _ => exact af1.elim
theorem small62_i {i : Int} (h : small62 i = true) : -(2 ^ 62) ≤ i ∧ i < 2 ^ 62 := by simpa [small62] using h
theorem rngOf_inv {ds : List D} {src : Src} (h : rngOf ds = some src) : (∃ n : Int, ds = [.int n] ∧ small62 n = true ∧ n ≤ SZ ∧ src = .val (rangeD 0 n.toNat)) ∨ ∃ a b : Int, ds = [.int a, .int b] ∧ small62 a = true ∧ small62 b = true ∧ b - a ≤ SZ ∧ src = .val (rangeD a (b - a).toNat) := by
  unfold rngOf at h
  split at h
  · split at h <;> cases h
    rename_i hn
    exact .inl ⟨_, rfl, hn.1, hn.2, rfl⟩
  · split at h <;> cases h
    rename_i hn
    exact .inr ⟨_, _, rfl, hn.1, hn.2.1, hn.2.2, rfl⟩
  · cases h
theorem js_rng {lo : Int} {m : Nat} (h : m ≤ SZ) {g1 : Gh} : JS W false (Itr lo m) (.val (rangeD lo m)) g1 := ⟨jv_rng, by
  have e : (rangeD lo m).length = m := by simp [rangeD]
  rw [e]; exact le_line h⟩
theorem nat_le {i : Int} {m : Nat} (h : i ≤ m) : i.toNat ≤ m := by omega
theorem rng_of {ds : List D} {H : Hp} {R : It → Hp → Prop} {env : Env} (si : SI W g0 H0 env st g σ H) (af : Aft W g0 H0 Wx env σ g (CF.R.of (rngOf ds) st) (fun src _ g' H' => ∀ J, JS W false J src g' → R J H')) :
    (∃ n : Int, ds = [.int n] ∧ -(2 ^ 62) ≤ n ∧ n < 2 ^ 62 ∧ R (Itr 0 n.toNat) H) ∨ ∃ a b : Int, ds = [.int a, .int b] ∧ (-(2 ^ 62) ≤ a ∧ a < 2 ^ 62 ∧ -(2 ^ 62) ≤ b ∧ b < 2 ^ 62) ∧ R (Itr a (b - a).toNat) H := by
  cases e : rngOf ds with
  | none => rw [e] at af; exact af.elim
  | some src =>
    rw [e] at af
    rcases rngOf_inv e with ⟨n, e1, e2, e3, e4⟩ | ⟨a, b, e1, e2, e2', e3, e4⟩
    · subst e4
      exact .inl ⟨n, e1, (small62_i e2).1, (small62_i e2).2, af g H (.refl g) si _ (js_rng (nat_le e3))⟩
    · subst e4
      exact .inr ⟨a, b, e1, ⟨(small62_i e2).1, (small62_i e2).2, (small62_i e2').1, (small62_i e2').2⟩, af g H (.refl g) si _ (js_rng (nat_le e3))⟩
theorem rg1_imp (hl : ∀ env s ds s', evTs W.T (callN W.T n) es env s = .ok ds s' → ds.length = 1) {σ : St} {H : Hp} {R : It → Hp → Prop} (h : tI W g0 H0 Wx false (evI W.T (callN W.T n) (.rg es)) σ H R) : iRng1 (tMAT W g0 H0 Wx (evTs W.T (callN W.T n) es)) σ H R := by
    obtain ⟨env, st, g, si, af⟩ := h
    simp only [evI] at af
    have hl := hl env st
    refine ⟨env, st, g, si, ?_⟩
    revert af hl
    cases evTs W.T (callN W.T n) es env st with
    | bad => exact fun af _ => af
    | exc c fs s' => exact fun af _ => af
    | ok ds st1 =>
      intro af hl
      have hl := hl ds st1 rfl
      intro g1 H1 l1 si1 vs rvs
      rcases rng_of si1 (Aft.up (r := CF.R.of (rngOf ds) st1) af l1) with ⟨n, e1, q⟩ | ⟨a, b, e1, _⟩
      · subst e1
        cases rvs with
        | cons r t =>
          cases t
          cases si1.intT r
          exact ⟨n, rfl, q⟩
      · subst e1; cases hl
theorem ci_rg1 (hg : Gl X "range") (hm : X.mg "range" = none) (ha : PA X [ea] (tMAT W g0 H0 Wx (evTs W.T (callN W.T n) es))) (hs : starEach [ea] X.env = [(false, eval ea X.env)]) (hl : ∀ env s ds s', evTs W.T (callN W.T n) es env s = .ok ds s' → ds.length = 1) :
    PI X tg (.Call (.Name "range" p) [ea] [] pos) (tI W g0 H0 Wx false (evI W.T (callN W.T n) (.rg es))) :=
  (pi_range1 hg hm ha hs).imp' fun σ H R h => rg1_imp hl h
theorem ci_rg2 {eb : Expr} (hg : Gl X "range") (hm : X.mg "range" = none) (ha : PA X [ea, eb] (tMAT W g0 H0 Wx (evTs W.T (callN W.T n) es))) (hs : starEach [ea, eb] X.env = [(false, eval ea X.env), (false, eval eb X.env)]) (hs2 : starEach [eb] X.env = [(false, eval eb X.env)]) (hl : ∀ env s ds s', evTs W.T (callN W.T n) es env s = .ok ds s' → ds.length = 2) :
    PI X tg (.Call (.Name "range" p) [ea, eb] [] pos) (tI W g0 H0 Wx false (evI W.T (callN W.T n) (.rg es))) :=
  (pi_range2 hg hm ha hs hs2).imp' fun σ H R ⟨env, st, g, si, af⟩ => by
    simp only [evI] at af
    have hl := hl env st
    refine ⟨env, st, g, si, ?_⟩
    revert af hl
    cases evTs W.T (callN W.T n) es env st with
    | bad => exact fun af _ => af
    | exc c fs s' => exact fun af _ => af
    | ok ds st1 =>
      intro af hl
      have hl := hl ds st1 rfl
      intro g1 H1 l1 si1 vs rvs
      rcases rng_of si1 (Aft.up (r := CF.R.of (rngOf ds) st1) af l1) with ⟨n, e1, q⟩ | ⟨a, b, e1, q⟩
      · subst e1; cases hl
      · subst e1
        cases rvs with
        | cons r t =>
          cases t with
          | cons r2 t =>
            cases t
            cases si1.intT r
            cases si1.intT r2
            exact ⟨a, b, rfl, q⟩
end
end CF
/-! CFEnum -/
/-! enumerate, over a list or a tuple. -/
namespace CF
open PySem PySem.Spec L2
/-- enumerate(v): the iterator of v, then the enumerate itself -/
theorem meets_enumB {v : Value} {o : Obj} {G : Heap → Prop} (B : Begins v o G) :
    Meets (Builtin.«enumerate.__new__» ⟨[.type "enumerate", v], []⟩) (fun _ R s => G s.heap ∧
      R (.ok (.ret (.ref (s.heap.push o).objs.size))) { s with heap := (s.heap.push o).push { cls := .type "enumerate", data := .fields #[.none, .bool false, .ref s.heap.objs.size, rawInt 0, .none, .none] } }) :=
  .of_wp fun prog w A R ⟨hp, gs, dr, tk, os⟩ ⟨held, k⟩ => by
    have itself := sub_enumerate
    have iter : ∀ {A' : Around} {E : Value → Shared → Prop} {Q : Value → Shared → Prop}, Q (.ref hp.objs.size) ⟨hp.push o, gs, dr, tk, os⟩ → wpAny (model prog w) A' (pyIter v) Q E ⟨hp, gs, dr, tk, os⟩ := B.iter prog w _ _ ⟨hp, gs, dr, tk, os⟩ _ held
    wp_walk using iter
    refine wpAny_stack_any (fun _ => wpAny_pure ?_)
    split
    all_goals first
      | (wp_walk using iter; exact ⟨_, rfl, k⟩)
      | (rename_i c _ _ _ _ _; generalize (c == Value.type "enumerate") = same; cases same <;> (wp_walk using iter; exact ⟨_, rfl, k⟩))
/-- the tuple at a, each item in a new pair with its place -/
def Iet (K : PySem.W.Frag) (a : Addr) : It where
  go i H := ∃ (xs : List V) (x : V), SqT K H a xs ∧ xs[i]? = some x
  yld i H v H' := ∃ T x, v = .ref T ∧ H T = none ∧ H' = upd H T (.tup [.int (i : Nat), x]) ∧ ∀ xs, SqT K H a xs → xs[i]? = some x
  stop i H := ∃ xs : List V, SqT K H a xs ∧ xs.length = i
section
variable {prog : Program} {w : World} {A : Around} {E : Value → Shared → Prop} {s : Shared}
theorem enum_tup {t : Addr} {items : Array Value} {Q : Value → Shared → Prop} (ht : s.heap.IsTuple t items)
    (h : ∀ h', IsEnum h' (s.heap.objs.size + 1) s.heap.objs.size 0 .none → h'.IsTupleIter s.heap.objs.size t 0 →
      (∀ b o, s.heap.get? b = some o → h'.get? b = some o) → Q (.ref (s.heap.objs.size + 1)) { s with heap := h' }) : wpAny (model prog w) A (call (.type "enumerate") [.ref t]) Q E s := by
  refine callType_new F.called_enumerate (by decide) (F.typeCall_enumerate_1 _) (F.newCall_enumerate_1 _) (fun obj => F.args_object_init_2 obj _) F.entry_enumerate_new (meets_enumB (begins_tuple t items)) ⟨ht, ?_⟩
  generalize ho : ({ cls := .type "tuple_iterator", data := .fields #[.ref t, .int 0 0] } : Obj) = o
  have fo : o.isFreed = false := by rw [← ho]; rfl
  have hz : (s.heap.push o).objs.size = s.heap.objs.size + 1 := Heap.size_push ..
  show _ ∧ _
  rw [hz]
  have he : IsEnum ((s.heap.push o).push { cls := .type "enumerate", data := .fields #[.none, .bool false, .ref s.heap.objs.size, rawInt 0, .none, .none] }) (s.heap.objs.size + 1) s.heap.objs.size 0 .none := by
    have q := Heap.get?_push_size (s.heap.push o) (o := { cls := .type "enumerate", data := .fields #[.none, .bool false, .ref s.heap.objs.size, rawInt 0, .none, .none] }) rfl
    rw [hz] at q; exact q
  exact ⟨⟨_, he, rfl⟩, h _ he ⟨o, Heap.get?_push_of_some _ (Heap.get?_push_size _ fo), by rw [← ho], by rw [← ho]; rfl⟩ fun b o x => Heap.get?_push_of_some _ (Heap.get?_push_of_some _ x)⟩
end
theorem turn_enumT {P : Program} {w : World} {K : PySem.W.Frag} {elts : List Expr} {kk : Nat} {tpos : Pos} (a e it : Addr) :
    Turn P w K (.Tuple elts kk tpos) (Iet K a) [e, it] e (fun i h => (∃ old, IsEnum h e it ((i : Nat) : Int) old) ∧ h.IsTupleIter it a i ∧ e ≠ it ∧ a ≠ it ∧ e ≠ a) where
  mem := by simp
  obj := fun i h ⟨⟨old, he⟩, ⟨o, ho, hc, hd⟩, _⟩ b hb => by
    rcases (show b = e ∨ b = it by simpa using hb) with z | z <;> subst z
    · exact ⟨_, he, fun v q => nomatch q⟩
    · exact ⟨o, ho, fun v q => by rw [hd] at q; cases q⟩
  keep := fun i h h' ⟨⟨old, he⟩, hi, hne⟩ k => ⟨⟨old, k e (by simp) _ he⟩, hi.at fun o q => k it (by simp) o q, hne⟩
  item := by
    rintro X rfl rfl rfl hc i pins s σ H E I hf ⟨⟨old, he⟩, hit, hne, hai, hea⟩ ⟨xs, x, hq, hx⟩
    obtain ⟨its, rv, pl, _⟩ := I.tuple hq
    obtain ⟨u, hu, ru⟩ := rv.get hx
    have G := GoesN.enumFrom (prog := X.prog) (w := X.w) (A := X.A) (elts := elts) (x1 := kk) (pos := tpos) 0 (Draws.tuple (prog := X.prog) (w := X.w) (A := X.A.in1) (I.ok.hd hc) it a hai its.toArray) e hne (by simp [hne, hea]) (by simp)
    have small : i < its.toArray.size := by rw [List.size_toArray]; exact (List.getElem?_eq_some_iff.mp hu).1
    have old0 : ∀ b ∈ [e, it], b < s.heap.objs.size := fun b hb => by
      rcases List.mem_cons.mp hb with z | z
      · rw [z]; exact Heap.lt_size he
      · rw [List.mem_singleton.mp z]; obtain ⟨_, q, _⟩ := hit; exact Heap.lt_size q
    refine G.goes i s _ E small ⟨⟨old, by rw [Int.zero_add]; exact he⟩, hit, pl⟩ fun v h' tk ⟨T, t, y, ev, hT, hy, ht⟩ ⟨⟨old2, he2⟩, hst, _⟩ hk _ => ?_
    subst ev
    cases (show some u = some y by rw [← hu]; simpa using hy)
    rw [Int.zero_add] at ht he2
    have new : ObjOk X.prog X.w (upd H T (.tup [.int (i : Nat), x])) h' T (.tup [.int (i : Nat), x]) := ⟨by show 2 ≤ sizeLine; decide, [.int i t, u], .cons ⟨_, rfl⟩ (.cons ru .nil), ht⟩
    exact ⟨.ref T, _, I.turnedNew (ch := [e, it]) (fun b ob hb q => hk b ob hb q) hf hT new, rfl, ⟨T, x, rfl, I.hok.fresh hT, rfl, fun ys hy' => by rw [I.tuple_inj hy' hq]; exact hx⟩, ⟨⟨old2, he2⟩, hst, hne, hai, hea⟩,
      fun b hb => by rw [upd_ne (Nat.ne_of_lt (Nat.lt_of_lt_of_le (old0 b hb) hT))]; exact (hf b hb).1⟩
  done := by
    rintro X rfl rfl rfl hc i pins s σ H E I hf ⟨⟨old, he⟩, hit, hne, hai, hea⟩ ⟨xs, hq, hx⟩
    obtain ⟨its, rv, pl, _⟩ := I.tuple hq
    have G := GoesN.enumFrom (prog := X.prog) (w := X.w) (A := X.A) (elts := elts) (x1 := kk) (pos := tpos) 0 (Draws.tuple (prog := X.prog) (w := X.w) (A := X.A.in1) (I.ok.hd hc) it a hai its.toArray) e hne (by simp [hne, hea]) (by simp)
    have all : i = its.toArray.size := by rw [← hx, List.size_toArray]; exact rv.length
    subst all
    exact G.stops s _ E ⟨⟨old, by rw [Int.zero_add]; exact he⟩, hit, pl⟩ fun h' tk hk _ => I.turnedL (ch := [e, it]) (fun b o hb q => hk b o hb q) hf
  self := fun A i s Q E ⟨⟨_, he⟩, _⟩ h => wpAny_pyIter_enum he h

def tEn (K : PySem.W.Frag) (te : TE) : TI := fun σ H R => te σ H fun x H1 => ∃ a, x = .ref a ∧ ((∃ xs, SqL K H1 a xs ∧ (xs.length ≤ sizeLine → R (Ite K a) H1)) ∨ (∃ xs, SqT K H1 a xs ∧ (xs.length ≤ sizeLine → R (Iet K a) H1)))
theorem pi_en {X : Cx} {e : Expr} {te : TE} {p pos tpos : Pos} {elts : List Expr} {kk : Nat} (hg : Gl X "enumerate") (hm : X.mg "enumerate" = none) (he : PE X e te) (hs : starEach [e] X.env = [(false, eval e X.env)]) :
    PI X (.Tuple elts kk tpos) (.Call (.Name "enumerate" p) [e] [] pos) (tEn X.K te) := by
  refine ⟨fun pins s σ H R I h => PyProof.Rows.Call_ (ld_blt I hg hm PyProof.Rows.boot_enumerate (PyProof.Rows.callWith_type1 (thn ((pa_cons he pa_nil (by rw [hs]; rfl)).run pos pins s σ H (fun vs H1 => match vs with
    | [x] => ∃ a, x = .ref a ∧ ((∃ xs, SqL X.K H1 a xs ∧ (xs.length ≤ sizeLine → R (Ite X.K a) H1)) ∨ (∃ xs, SqT X.K H1 a xs ∧ (xs.length ≤ sizeLine → R (Iet X.K a) H1)))
    | _ => False) I h) fun us s1 ⟨vs, H1, I1, r1, q⟩ => ?_) hs rfl))⟩
  cases r1 with
  | nil => exact q.elim
  | cons r rr =>
    cases rr with
    | cons _ _ => exact q.elim
    | nil =>
      obtain ⟨a, ea, q⟩ := q
      subst ea
      cases r
      have two : ∀ b, b = s1.heap.objs.size + 1 ∨ b = s1.heap.objs.size → s1.heap.objs.size ≤ b := fun b z => by omega
      rcases q with ⟨xs, hq, q⟩ | ⟨xs, hq, q⟩
      · obtain ⟨its, rv, p', hz⟩ := I1.list hq
        refine call_enumerate_list p'.isList fun h' he hit hsz hk => wpAny_pyIter_enum he ?_
        refine ⟨s1.heap.objs.size + 1, [s1.heap.objs.size + 1, s1.heap.objs.size], _, _, H1, rfl, I1.kept (t' := s1.toks) hk, turn_enum a _ s1.heap.objs.size, ⟨⟨.none, he⟩, hit, Nat.succ_ne_self _⟩, fun b hb => ?_, q hz⟩
        have hle := two b (by simpa using hb)
        exact I1.fpOk hle (I1.hok.fresh hle)
      · obtain ⟨its, rv, p', hz⟩ := I1.tuple hq
        have hlt : a < s1.heap.objs.size := by obtain ⟨_, z, _⟩ := p'; exact Heap.lt_size z
        refine enum_tup p' fun h' he hit hk => wpAny_pyIter_enum he ?_
        refine ⟨s1.heap.objs.size + 1, [s1.heap.objs.size + 1, s1.heap.objs.size], _, _, H1, rfl, I1.kept (t' := s1.toks) hk, turn_enumT a _ s1.heap.objs.size, ⟨⟨.none, he⟩, hit, Nat.succ_ne_self _, Nat.ne_of_lt hlt, Nat.ne_of_gt (Nat.lt_succ_of_lt hlt)⟩, fun b hb => ?_, q hz⟩
        have hle := two b (by simpa using hb)
        exact I1.fpOk hle (I1.hok.fresh hle)

theorem enumD_at : ∀ {l : List D} {n i : Nat} {d : D}, (enumD n l)[i]? = some d → ∃ x, l[i]? = some x ∧ d = .tup [.int (n + i : Nat), x]
  | [], n, i, d, h => by simp [enumD] at h
  | y :: l, n, 0, d, h => by
    simp [enumD] at h
    exact ⟨y, rfl, h.symm⟩
  | y :: l, n, i + 1, d, h => by
    have h' : (enumD (n + 1) l)[i]? = some d := by simpa [enumD] using h
    obtain ⟨x, h1, h2⟩ := enumD_at h'
    exact ⟨x, by simpa using h1, by rw [h2, show n + 1 + i = n + (i + 1) by omega]⟩
theorem enumD_len : ∀ {l : List D} {n : Nat}, (enumD n l).length = l.length
  | [], _ => rfl
  | _ :: l, n => by simp [enumD, enumD_len (l := l) (n := n + 1)]
section
variable {X : Cx} {W : Wld} {n : Nat} {g0 : Gh} {H0 : Hp} {Wx : WX}
theorem jv_en {J : It} {l : List D} {g1 : Gh} (hg : ∀ g0 H0 env st g σ H, Gh.le g1 g → SI W g0 H0 env st g σ H → ∃ vs, RVs g vs l ∧ (∀ i, l.length = i → J.stop i H) ∧ ∀ i v, vs[i]? = some v → J.go i H ∧ ∀ x H2, J.yld i H x H2 → ∃ T, x = .ref T ∧ H T = none ∧ H2 = upd H T (.tup [.int (i : Nat), v])) : JV W true J (enumD 0 l) g1 := by
  intro i g0 H0 env st g σ H le si
  obtain ⟨vs, rv, hs, hgo⟩ := hg g0 H0 env st g σ H le si
  refine ⟨fun d hd => ?_, fun hl => hs i (by rw [← hl, enumD_len])⟩
  obtain ⟨x, h1, h2⟩ := enumD_at hd
  obtain ⟨v, hv, r⟩ := rs_at rv h1
  obtain ⟨h3, h4⟩ := hgo i v hv
  refine ⟨h3, fun y H2 hy => ?_⟩
  obtain ⟨T, e1, e2, e3⟩ := h4 y H2 hy
  subst e1 e3 h2
  refine ⟨si.next (si.hs.lay e2) (Frm.lay e2), T, [.int (i : Nat), v], _, rfl, rfl, .inl (.inl upd_same), .cons ?_ (.cons r .nil)⟩
  show (i : Int) = ((0 + i : Nat) : Int)
  omega
theorem ci_en {a : E} {ea : Expr} {elts : List Expr} {kk : Nat} {tpos p pos : Pos} (xw : XW X W) (hg : Gl X "enumerate") (hm : X.mg "enumerate" = none) (ha : PE X ea (tM W g0 H0 Wx (ev W.T (callN W.T n) a))) (hs : starEach [ea] X.env = [(false, eval ea X.env)]) :
    PI X (.Tuple elts kk tpos) (.Call (.Name "enumerate" p) [ea] [] pos) (tI W g0 H0 Wx true (evI W.T (callN W.T n) (.en a))) :=
  (pi_en hg hm ha hs).imp' fun σ H R ⟨env, st, g, si, af⟩ => by
    simp only [evI] at af
    refine ⟨env, st, g, si, af.bind.imp fun d st1 g1 H1 l1 si1 af1 x rx => ?_⟩
    rw [xw.K]
    cases d with
    | lst l =>
      obtain ⟨p, vs, ep, h1, h2⟩ := si1.lstV xw.ok rx
      subst ep
      refine ⟨p, rfl, .inl ⟨vs, .of h1, fun hz => af1 g1 H1 (.refl g1) si1 _ ⟨jv_en fun g0 H0 env st g σ H le si => ?_, by rw [enumD_len, ← pairedLen h2]; exact hz⟩⟩⟩
      obtain ⟨p', ws, ep', k1, k2⟩ := si.lstV xw.ok (rx.mono le)
      cases ep'
      exact ⟨ws, k2, fun i hi => ⟨ws, .of k1, by rw [pairedLen k2]; exact Nat.le_of_eq hi⟩, fun i v hv => ⟨⟨ws, v, .of k1, hv⟩, fun x H2 ⟨T, y, e1, e2, e3, e4⟩ => ⟨T, e1, e2, by have e5 := e4 ws (.of k1); rw [hv] at e5; cases e5; exact e3⟩⟩⟩
    | tup l =>
      obtain ⟨p, vs, ep, h1, h2⟩ := si1.tup xw.ok rx
      subst ep
      refine ⟨p, rfl, .inr ⟨vs, h1, fun hz => af1 g1 H1 (.refl g1) si1 _ ⟨jv_en fun g0 H0 env st g σ H le si => ?_, by rw [enumD_len, ← pairedLen h2]; exact hz⟩⟩⟩
      obtain ⟨p', ws, ep', k1, k2⟩ := si.tup xw.ok (rx.mono le)
      cases ep'
      exact ⟨ws, k2, fun i hi => ⟨ws, k1, by rw [pairedLen k2]; exact hi⟩, fun i v hv => ⟨⟨ws, v, k1, hv⟩, fun x H2 ⟨T, y, e1, e2, e3, e4⟩ => ⟨T, e1, e2, by have e5 := e4 ws k1; rw [hv] at e5; cases e5; exact e3⟩⟩⟩
    | _ => exact af1.elim
end
end CF
/-! CFTgt -/
/-! Slots that are stored; targets. -/
namespace CF
open PySem PySem.Spec L2
section
variable {X : Cx} {W : Wld} {g0 : Gh} {H0 : Hp} {env : Env} {σ : St} {st : Sto} {g : Gh} {H : Hp} {i : Nat} {d : D} {v : V} {y : Option V} {s : Slot}
theorem set_cases {α : Type} {l : List α} {i j : Nat} {a b : α} (h : (l.set i a)[j]? = some b) : (j = i ∧ a = b) ∨ (j ≠ i ∧ l[j]? = some b) := by
  by_cases hj : i = j
  · subst hj
    have hl : i < l.length := by simpa using (List.getElem?_eq_some_iff.mp h).1
    rw [List.getElem?_set_self hl] at h
    cases h
    exact .inl ⟨rfl, rfl⟩
  · rw [List.getElem?_set_ne hj] at h
    exact .inr ⟨Ne.symm hj, h⟩
theorem ER.put (er : ER W H g H0 env σ) (r : SlR W H g H0 y s) (n : ∀ d a, s = .ow d → y = some (.ref a) → ∀ (j : Nat) e, j ≠ i → env[j]? = some (.ow e) → σ[j]? ≠ some (some (.ref a))) : ER W H g H0 (env.set i s) (σ.set i y) where
  len := by rw [List.length_set, List.length_set]; exact er.len
  sl := fun j t x e1 e2 => by
    rcases set_cases e1 with ⟨h, h1⟩ | ⟨h, h1⟩ <;> rcases set_cases e2 with ⟨k, h2⟩ | ⟨k, h2⟩
    · subst h1 h2; exact r
    · exact absurd h k
    · exact absurd k h
    · exact er.sl j t x h1 h2
  ap := fun j k d e a e1 e2 s1 s2 => by
    rcases set_cases e1 with ⟨h, h1⟩ | ⟨h, h1⟩ <;> rcases set_cases s1 with ⟨h', h1'⟩ | ⟨h', h1'⟩
    · rcases set_cases e2 with ⟨k, h2⟩ | ⟨k, h2⟩ <;> rcases set_cases s2 with ⟨k', h2'⟩ | ⟨k', h2'⟩
      · rw [h, k]
      · exact absurd k k'
      · exact absurd k' k
      · exact absurd h2' (n d a h1 h1' _ _ k h2)
    · exact absurd h h'
    · exact absurd h' h
    · rcases set_cases e2 with ⟨k, h2⟩ | ⟨k, h2⟩ <;> rcases set_cases s2 with ⟨k', h2'⟩ | ⟨k', h2'⟩
      · exact absurd h1' (n e a h2 h2' _ _ h h1)
      · exact absurd k k'
      · exact absurd k' k
      · exact er.ap _ _ _ _ _ h1 h2 h1' h2'
theorem SI.setPu (si : SI W g0 H0 env st g σ H) (r : RV g v d) : SI W g0 H0 (env.set i (.pu d)) st g (σ.set i (some v)) H :=
  ⟨si.hs, si.fr, si.er.put (s := .pu d) ⟨v, rfl, r⟩ fun _ _ e => by cases e⟩
theorem SI.setEmp (si : SI W g0 H0 env st g σ H) : SI W g0 H0 (env.set i .emp) st g (σ.set i y) H :=
  ⟨si.hs, si.fr, si.er.put (s := .emp) trivial fun _ _ e => by cases e⟩
theorem SI.setEx {c : Nat} {fs : List (Nat × D)} (si : SI W g0 H0 env st g σ H) : SI W g0 H0 (env.set i (.ex c fs)) st g (σ.set i y) H :=
  ⟨si.hs, si.fr, si.er.put (s := .ex c fs) trivial fun _ _ e => by cases e⟩
theorem SI.setOw {p : Addr} (si : SI W g0 H0 env st g σ H) (o : Own0 W H0 env σ g H p d) : SI W g0 H0 (env.set i (.ow d)) st g (σ.set i (some (.ref p))) H := by
  refine ⟨si.hs, si.fr, si.er.put (s := .ow d) ⟨p, rfl, o.fz, o.mu, o.h0, o.ow⟩ fun d' a e1 e2 j e _ h => ?_⟩
  cases e2
  exact o.no j e h
/-- what a target stores -/
def tB (W : Wld) (g0 : Gh) (H0 : Hp) (p : Pat) : TG := fun v σ H Q => ∃ u env st g d env', SI W g0 H0 env st g σ H ∧ YR W u g H v d ∧ (u = true → ∃ is, p = .tp is) ∧ bindPat p d env = some env' ∧ ∀ σ', σ'.length = σ.length → (∀ j, j ∉ slotsP p → σ'[j]? = σ[j]?) → SI W g0 H0 env' st g σ' H → Q σ' H
theorem _root_.L2.PG.imp' {tg : Expr} {t t' : TG} (h : PG X tg t) (k : ∀ v σ H Q, t' v σ H Q → t v σ H Q) : PG X tg t' := ⟨fun pins s σ H v u Q I r q => h.run pins s σ H v u Q I r (k v σ H Q q)⟩
theorem cg_nm {x : Str} {pos : Pos} (hN : X.N.Nodup) (hi : X.N[i]? = some x) (hx : Loc X.env.scope x) (hf : X.fn x = true ∨ X.env.scope.names.lookup x = some .local) : PG X (.Name x pos) (tB W g0 H0 (.nm i)) :=
  (pg_name hN hi hx hf).imp' fun v σ H Q ⟨u, env, st, g, d, env', si, yr, hu, hb, q⟩ => by
    unfold bindPat at hb
    simp only at hb
    split at hb <;> cases hb
    cases u with
    | true => obtain ⟨is, e⟩ := hu rfl; cases e
    | false => exact q _ (by simp) (fun j hj => List.getElem?_set_ne (by simp [slotsP] at hj; omega)) (si.setPu yr)
/-- names, one after another -/
def gNames : List Nat → TGs
  | [] => gNil
  | i :: is => gCons (gName i) (gNames is)
/-- the names of a tuple's target -/
inductive NmsOk (X : Cx) : List Nat → List Expr → Prop where
  | nil : NmsOk X [] []
  | cons {i is x pos es} : X.N[i]? = some x → Loc X.env.scope x → (X.fn x = true ∨ X.env.scope.names.lookup x = some .local) → NmsOk X is es → NmsOk X (i :: is) (.Name x pos :: es)
theorem pgs_names (hN : X.N.Nodup) : ∀ {is es}, NmsOk X is es → PGs X es (gNames is)
  | _, _, .nil => pgs_nil
  | _, _, .cons h1 h2 h3 h4 => pgs_cons (pg_name hN h1 h2 h3) (pgs_names hN h4) (by simp [assignEach])
theorem names_len : ∀ {is es}, NmsOk X is es → (assignEach es X.env).length = is.length ∧ (assignEach es X.env).findIdx? (·.1) = none
  | _, _, .nil => ⟨rfl, rfl⟩
  | _, _, .cons h1 h2 h3 h4 => by
    obtain ⟨a, b⟩ := names_len h4
    refine ⟨by simp [assignEach, a], ?_⟩
    rw [List.findIdx?_eq_none_iff] at b ⊢
    intro x hx
    simp only [assignEach, List.mem_cons] at hx
    rcases hx with hx | hx
    · subst hx; rfl
    · exact b x hx
theorem gNames_ok : ∀ {is : List Nat} {vs : List V} {ds : List D} {env : Env} {σ : St} {Q : St → Hp → Prop}, SI W g0 H0 env st g σ H → RVs g vs ds → is.length = ds.length →
    (∀ σ', σ'.length = σ.length → (∀ j, j ∉ is → σ'[j]? = σ[j]?) → SI W g0 H0 ((is.zip ds).foldl (fun e q => e.set q.1 (.pu q.2)) env) st g σ' H → Q σ' H) → gNames is vs σ H Q
  | [], vs, ds, env, σ, Q, si, rv, hl, q => by
    cases ds with
    | cons _ _ => cases hl
    | nil =>
      cases rv
      exact ⟨rfl, q σ rfl (fun _ _ => rfl) si⟩
  | i :: is, vs, ds, env, σ, Q, si, rv, hl, q => by
    cases ds with
    | nil => cases hl
    | cons d ds =>
      cases rv with
      | cons r t =>
        refine ⟨_, _, rfl, ?_⟩
        show gNames is _ (σ.set i _) H Q
        refine gNames_ok (si.setPu r) t (by simpa using hl) fun σ' h1 h2 h3 => q σ' (by rw [h1, List.length_set]) (fun j hj => ?_) h3
        simp only [List.mem_cons, not_or] at hj
        rw [h2 j hj.2, List.getElem?_set_ne (Ne.symm hj.1)]
theorem cg_tp {is : List Nat} {es : List Expr} {k : Nat} {pos : Pos} (xw : XW X W) (hc : X.calm = true) (hN : X.N.Nodup) (h : NmsOk X is es) : PG X (.Tuple es k pos) (tB W g0 H0 (.tp is)) :=
  (pg_tup hc (pgs_names hN h) (names_len h).1 (names_len h).2).imp' fun v σ H Q ⟨u, env, st, g, d, env', si, yr, hu, hb, q⟩ => by
    unfold bindPat at hb
    simp only at hb
    split at hb
    · rename_i ds
      split at hb <;> cases hb
      rename_i hl
      cases u with
      | true =>
        obtain ⟨a, xs, ds', e1, e2, e3, e4⟩ := yr
        cases e2
        exact ⟨a, xs, e1, by rw [xw.K]; exact e3, by rw [pairedLen e4]; exact hl.1.symm, gNames_ok si e4 hl.1 fun σ' h1 h2 h3 => q σ' h1 h2 h3⟩
      | false =>
        obtain ⟨a, xs, e1, e3, e4⟩ := si.tup xw.ok yr
        exact ⟨a, xs, e1, by rw [xw.K]; exact e3, by rw [pairedLen e4]; exact hl.1.symm, gNames_ok si e4 hl.1 fun σ' h1 h2 h3 => q σ' h1 h2 h3⟩
    · cases hb
end
end CF
/-! CFComp -/
/-! Comprehensions. -/
namespace CF
open PySem PySem.Spec L2
abbrev WF0 : WX := fun _ _ _ _ => False
section
variable {X : Cx} {W : Wld} {g0 : Gh} {H0 : Hp} {Wx : WX} {env env3 : Env} {σ σ3 : St} {st st0 : Sto} {g g1 : Gh} {H H1 : Hp}
/-! ### what comes next -/
def nxtOf : Src → Nat → Sto → Option (Option D)
  | .val l, i, _ => if i ≤ l.length then some l[i]? else none
  | .at k n, i, st => if i ≤ n then (lstAt st k).map fun l => l[i]? else none
def szOf : Src → Nat
  | .val l => l.length
  | .at _ n => n
def compN (nx : Nat → Sto → Option (Option D)) (f : D → Sto → R (List D)) : Nat → Nat → Sto → R (List D)
  | 0, _, _ => .bad
  | k + 1, i, s => match nx i s with
    | none => .bad
    | some none => .ok [] s
    | some (some d) => (f d s).bind fun o s1 => (compN nx f k (i + 1) s1).bind fun l s2 => .ok (o ++ l) s2
def loopN (nx : Nat → Sto → Option (Option D)) (f : D → Env → Sto → R Fl) : Nat → Nat → Env → Sto → R Fl
  | 0, _, _, _ => .bad
  | k + 1, i, env, s => match nx i s with
    | none => .bad
    | some none => .ok (.nx env) s
    | some (some d) => match f d env s with
      | .ok (.nx env') s' => loopN nx f k (i + 1) env' s'
      | .ok (.rt v) s' => .ok (.rt v) s'
      | .exc c fs s' => .exc c fs s'
      | .bad => .bad
theorem nxt_val {l : List D} {i : Nat} {s : Sto} (h : i ≤ l.length) : nxtOf (.val l) i s = some l[i]? := if_pos h
theorem nxt_at {k n i : Nat} {s : Sto} (h : i ≤ n) : nxtOf (.at k n) i s = (lstAt s k).map fun l => l[i]? := if_pos h
theorem nxt_val_inv {l : List D} {i : Nat} {s : Sto} {o : Option D} (h : nxtOf (.val l) i s = some o) : i ≤ l.length ∧ l[i]? = o := by
  by_cases hi : i ≤ l.length
  · rw [nxt_val hi] at h
    exact ⟨hi, Option.some.inj h⟩
  · rw [show nxtOf (.val l) i s = none from if_neg hi] at h
    cases h
theorem nxt_at_inv {k n i : Nat} {s : Sto} {o : Option D} (h : nxtOf (.at k n) i s = some o) : ∃ l, lstAt s k = some l ∧ l[i]? = o := by
  by_cases hi : i ≤ n
  · rw [nxt_at hi] at h
    cases hl : lstAt s k with
    | none => rw [hl] at h; cases h
    | some l =>
      rw [hl] at h
      exact ⟨l, rfl, Option.some.inj h⟩
  · rw [show nxtOf (.at k n) i s = none from if_neg hi] at h
    cases h
theorem drop_at {l : List D} {i : Nat} (h : i < l.length) : ∃ d, l[i]? = some d ∧ l.drop i = d :: l.drop (i + 1) := ⟨l[i], List.getElem?_eq_getElem h, List.drop_eq_getElem_cons h⟩
theorem compV_eq (f : D → Sto → R (List D)) (l : List D) : ∀ (k i : Nat), i + k = l.length → ∀ s, compV f (l.drop i) s = compN (nxtOf (.val l)) f (k + 1) i s
  | 0, i, h, s => by
    have e : l.length ≤ i := by omega
    rw [List.drop_eq_nil_of_le e]
    unfold compN
    rw [nxt_val (by omega), List.getElem?_eq_none e]
    rfl
  | k + 1, i, h, s => by
    obtain ⟨d, e1, e2⟩ := drop_at (l := l) (i := i) (by omega)
    rw [e2]
    conv => rhs; unfold compN
    rw [nxt_val (by omega), e1]
    simp only [compV]
    congr 1
    funext o s1
    rw [compV_eq f l k (i + 1) (by omega)]
theorem compA_eq (f : D → Sto → R (List D)) (k n : Nat) : ∀ (m i : Nat), i + m = n + 1 → ∀ s, compA f k m i s = compN (nxtOf (.at k n)) f m i s
  | 0, i, h, s => rfl
  | m + 1, i, h, s => by
    unfold compA compN
    rw [nxt_at (by omega)]
    cases lstAt s k with
    | none => rfl
    | some l =>
      simp only [Option.map_some]
      cases l[i]? with
      | none => rfl
      | some d =>
        simp only
        congr 1
        funext o s1
        rw [compA_eq f k n m (i + 1) (by omega)]
theorem compS_eq (f : D → Sto → R (List D)) (src : Src) (s : Sto) : compS f src s = compN (nxtOf src) f (szOf src + 1) 0 s := by
  cases src with
  | val l => exact compV_eq f l l.length 0 (by omega) s
  | «at» k n => exact compA_eq f k n (n + 1) 0 (by omega) s
theorem loopV_eq (f : D → Env → Sto → R Fl) (l : List D) : ∀ (k i : Nat), i + k = l.length → ∀ env s, loopV f (l.drop i) env s = loopN (nxtOf (.val l)) f (k + 1) i env s
  | 0, i, h, env, s => by
    have e : l.length ≤ i := by omega
    rw [List.drop_eq_nil_of_le e]
    unfold loopN
    rw [nxt_val (by omega), List.getElem?_eq_none e]
    rfl
  | k + 1, i, h, env, s => by
    obtain ⟨d, e1, e2⟩ := drop_at (l := l) (i := i) (by omega)
    rw [e2]
    conv => rhs; unfold loopN
    rw [nxt_val (by omega), e1]
    simp only [loopV]
    cases f d env s with
    | ok fl s' => cases fl with
      | nx env' => exact loopV_eq f l k (i + 1) (by omega) _ _
      | rt v => rfl
    | exc c fs s' => rfl
    | bad => rfl
theorem loopA_eq (f : D → Env → Sto → R Fl) (k n : Nat) : ∀ (m i : Nat), i + m = n + 1 → ∀ env s, loopA f k m i env s = loopN (nxtOf (.at k n)) f m i env s
  | 0, i, h, env, s => rfl
  | m + 1, i, h, env, s => by
    unfold loopA loopN
    rw [nxt_at (by omega)]
    cases lstAt s k with
    | none => rfl
    | some l =>
      simp only [Option.map_some]
      cases l[i]? with
      | none => rfl
      | some d =>
        simp only
        cases f d env s with
        | ok fl s' => cases fl with
          | nx env' => exact loopA_eq f k n m (i + 1) (by omega) _ _
          | rt v => rfl
        | exc c fs s' => rfl
        | bad => rfl
theorem loopS_eq (f : D → Env → Sto → R Fl) (src : Src) (env : Env) (s : Sto) : loopS f src env s = loopN (nxtOf src) f (szOf src + 1) 0 env s := by
  cases src with
  | val l => exact loopV_eq f l l.length 0 (by omega) env s
  | «at» k n => exact loopA_eq f k n (n + 1) 0 (by omega) env s
theorem js_nxt {u : Bool} {J : It} {src : Src} (h : JS W u J src g1) (le : Gh.le g1 g) (si : SI W g0 H0 env st g σ H) {i : Nat} {o : Option D} (e : nxtOf src i st = some o) :
    (o = none → J.stop i H) ∧ ∀ d, o = some d → J.go i H ∧ ∀ x H2, J.yld i H x H2 → SI W g0 H0 env st g σ H2 ∧ YR W u g H2 x d := by
  cases src with
  | val l =>
    obtain ⟨jv, _⟩ := h
    obtain ⟨h1, h2⟩ := jv i g0 H0 env st g σ H le si
    obtain ⟨hi, eo⟩ := nxt_val_inv e
    refine ⟨fun hn => h2 ?_, fun d hd => h1 d (by rw [eo, hd])⟩
    have q := List.getElem?_eq_none_iff.mp (eo.trans hn)
    omega
  | «at» k n =>
    obtain ⟨hu, ja, _⟩ := h
    subst hu
    obtain ⟨l, hl, eo⟩ := nxt_at_inv e
    obtain ⟨h1, h2⟩ := ja i g0 H0 env st g σ H le si l hl
    exact ⟨fun hn => h2 (eo.trans hn), fun d hd => h1 d (eo.trans hd)⟩
/-! ### slots forgotten, and taken up again -/
theorem SI.back {a : Gh} {b : Hp} (si0 : SI W a b env st0 g1 σ H1) (si : SI W g0 H0 env3 st g σ3 H) (le : Gh.le g1 g) (h : ∀ (i : Nat) d, env[i]? = some (.ow d) → env3[i]? = some (.ow d) ∧ σ3[i]? = σ[i]?) : SI W g0 H0 env st g σ H := by
  refine ⟨si.hs, si.fr, si0.er.len, fun i s x e1 e2 => ?_, si0.er.ap⟩
  cases s with
  | emp => trivial
  | ex c fs => trivial
  | hd a c fs => exact si0.er.sl i _ x e1 e2
  | pu d => exact (si0.er.sl i _ x e1 e2).elim fun v z => ⟨v, z.1, z.2.mono le⟩
  | ow d =>
    obtain ⟨h1, h2⟩ := h i d e1
    exact si.er.sl i _ x h1 (by rw [h2]; exact e2)
theorem SI.wipe (si : SI W g0 H0 env st g σ H) : ∀ vs : List Nat, SI W g0 H0 (wipeE env vs) st g (L2.wipe σ vs) H
  | [] => si
  | v :: vs => (SI.wipe si vs).setEmp
theorem wipeE_ow {i : Nat} {d : D} : ∀ {vs : List Nat}, (wipeE env vs)[i]? = some (.ow d) → env[i]? = some (.ow d) ∧ i ∉ vs
  | [], h => ⟨h, by simp⟩
  | v :: vs, h => by
    unfold wipeE at h
    rcases set_cases h with ⟨_, h⟩ | ⟨hn, h⟩
    · cases h
    · obtain ⟨h1, h2⟩ := wipeE_ow h
      exact ⟨h1, by simp [hn, h2]⟩
theorem wipeE_out {i : Nat} : ∀ {vs : List Nat}, i ∉ vs → (wipeE env vs)[i]? = env[i]?
  | [], _ => rfl
  | v :: vs, h => by
    simp only [List.mem_cons, not_or] at h
    unfold wipeE
    rw [List.getElem?_set_ne (Ne.symm h.1), wipeE_out h.2]
theorem wipeS_out {i : Nat} : ∀ {vs : List Nat}, i ∉ vs → (L2.wipe σ vs)[i]? = σ[i]?
  | [], _ => rfl
  | v :: vs, h => by
    simp only [List.mem_cons, not_or] at h
    unfold L2.wipe
    rw [List.getElem?_set_ne (Ne.symm h.1), wipeS_out h.2]
theorem wipeS_in {i : Nat} : ∀ {vs : List Nat}, i ∈ vs → i < σ.length → (L2.wipe σ vs)[i]? = some none
  | v :: vs, h, hl => by
    unfold L2.wipe
    by_cases hv : v = i
    · subst hv
      rw [List.getElem?_set_self (by rw [wipe_length]; exact hl)]
    · rw [List.getElem?_set_ne hv]
      exact wipeS_in ((List.mem_cons.mp h).resolve_left fun z => hv z.symm) hl
theorem wipe_again {vs : List Nat} {σ2 : St} (hl : σ2.length = (L2.wipe σ vs).length) (h : ∀ j, j ∉ vs → σ2[j]? = (L2.wipe σ vs)[j]?) : L2.wipe σ2 vs = L2.wipe σ vs := by
  apply List.ext_getElem?
  intro j
  by_cases hj : j ∈ vs
  · by_cases hb : j < σ.length
    · rw [wipeS_in hj hb, wipeS_in hj (by rw [hl, wipe_length]; exact hb)]
    · rw [List.getElem?_eq_none (by rw [wipe_length, hl, wipe_length]; omega), List.getElem?_eq_none (by rw [wipe_length]; omega)]
  · rw [wipeS_out hj, h j hj]
theorem notOw_at {vs : List Nat} (h : notOw env vs = true) {i : Nat} {d : D} (e : env[i]? = some (.ow d)) : i ∉ vs := fun hm => by
  have q := List.all_eq_true.mp h i hm
  rw [e] at q
  cases q
theorem SI.unwipe {a : Gh} {b : Hp} {vs : List Nat} (si0 : SI W a b env st0 g1 σ H1) (si : SI W g0 H0 (wipeE env vs) st g (L2.wipe σ vs) H) (le : Gh.le g1 g) (h : notOw env vs = true) : SI W g0 H0 env st g σ H :=
  si0.back si le fun i d e => ⟨by rw [wipeE_out (notOw_at h e)]; exact e, wipeS_out (notOw_at h e)⟩
/-- what a target stores lies in its slots -/
theorem foldl_set_out : ∀ (l : List (Nat × D)) (env : Env) (j : Nat), j ∉ l.map (·.1) → (l.foldl (fun e q => e.set q.1 (.pu q.2)) env)[j]? = env[j]?
  | [], _, _, _ => rfl
  | p :: l, env, j, h => by
    simp only [List.map_cons, List.mem_cons, not_or] at h
    rw [List.foldl_cons, foldl_set_out l _ j h.2, List.getElem?_set_ne (Ne.symm h.1)]
theorem bindPat_out {p : Pat} {d : D} {env' : Env} (h : bindPat p d env = some env') {j : Nat} (hj : j ∉ slotsP p) : env'[j]? = env[j]? := by
  cases p with
  | nm i =>
    simp only [bindPat] at h
    split at h <;> cases h
    exact List.getElem?_set_ne (by simp [slotsP] at hj; omega)
  | tp is =>
    cases d with
    | tup ds =>
      simp only [bindPat] at h
      split at h <;> cases h
      rename_i hl
      refine foldl_set_out _ _ _ ?_
      rw [List.map_fst_zip (by omega)]
      exact hj
    | _ => cases h
/-! ### the new list, kept by the base -/
/-- D as it stands, seen as there before -/
theorem SI.base {D : Addr} {o : HO} (si : SI W g0 H0 env st g σ H) (hD : H D = some o) (h0 : H0 D = none) (nf : g.fz D = none) (nm : D ∉ g.mu) (no : ∀ (i : Nat) d, env[i]? = some (.ow d) → σ[i]? ≠ some (some (.ref D))) : SI W g0 (upd H0 D o) env st g σ H := by
  have g0D : g0.fz D = none := by
    cases e : g0.fz D with
    | none => rfl
    | some d => rw [si.fr.le.fz D d e] at nf; cases nf
  refine ⟨si.hs, ⟨si.fr.le, fun a u e n => ?_, fun a e n => ?_, fun a e m => ?_, fun a e => ?_⟩, si.er.len, fun i s x e1 e2 => ?_, si.er.ap⟩
  · by_cases ha : a = D
    · subst ha; rw [upd_same] at e; cases e; exact .inl hD
    · rw [upd_ne ha] at e; exact si.fr.keep a u e n
  · by_cases ha : a = D
    · subst ha; rw [nf, g0D]
    · rw [upd_ne ha] at e; exact si.fr.fz a e n
  · by_cases ha : a = D
    · subst ha; exact absurd m nm
    · rw [upd_ne ha] at e; exact si.fr.mu a e m
  · by_cases ha : a = D
    · subst ha; rw [hD]; simp
    · rw [upd_ne ha] at e; exact si.fr.al a e
  · have q := si.er.sl i s x e1 e2
    cases s with
    | emp => trivial
    | pu d => exact q
    | ex c fs => trivial
    | hd a c fs => exact q
    | ow d =>
      obtain ⟨a, ea, n1, n2, n3, r⟩ := q
      refine ⟨a, ea, n1, n2, ?_, r⟩
      rw [upd_ne fun z => no i d e1 (by rw [e2, ea, z])]
      exact n3
/-- .. and back: D as it stands, nobody's -/
theorem SI.unbase {D : Addr} {o : HO} (si : SI W g0 (upd H0 D o) env st g σ H) (h0 : H0 D = none) (n0 : g0.fz D = none) (m0 : D ∉ g0.mu) : SI W g0 H0 env st g σ H ∧ H D = some o ∧ g.fz D = none ∧ D ∉ g.mu ∧ ∀ (i : Nat) d, env[i]? = some (.ow d) → σ[i]? ≠ some (some (.ref D)) := by
  have hne : ∀ a, H0 a ≠ none → a ≠ D := fun a h z => h (by rw [z]; exact h0)
  have sD : upd H0 D o D ≠ none := by rw [upd_same]; simp
  refine ⟨⟨si.hs, ⟨si.fr.le, fun a u e n => ?_, fun a e n => ?_, fun a e m => ?_, fun a e => ?_⟩, si.er.len, fun i s x e1 e2 => ?_, si.er.ap⟩, (si.fr.keep D o upd_same m0).resolve_right (fun ⟨⟨l, e⟩, _⟩ => by rw [n0] at e; cases e), by rw [si.fr.fz D sD m0]; exact n0, fun m => m0 (si.fr.mu D sD m), fun i d e1 e2 => ?_⟩
  · exact si.fr.keep a u (by rw [upd_ne (hne a (by rw [e]; simp))]; exact e) n
  · exact si.fr.fz a (by rw [upd_ne (hne a e)]; exact e) n
  · exact si.fr.mu a (by rw [upd_ne (hne a e)]; exact e) m
  · exact si.fr.al a (by rw [upd_ne (hne a e)]; exact e)
  · have q := si.er.sl i s x e1 e2
    cases s with
    | emp => trivial
    | pu d => exact q
    | ex c fs => trivial
    | hd a c fs => exact q
    | ow d =>
      obtain ⟨a, ea, n1, n2, n3, r⟩ := q
      refine ⟨a, ea, n1, n2, ?_, r⟩
      by_cases ha : a = D
      · rw [ha]; exact h0
      · rw [upd_ne ha] at n3; exact n3
  · obtain ⟨_, _, n3, _⟩ := si.ownAt e1 e2
    rw [upd_same] at n3
    cases n3
/-- D is written: nobody's -/
theorem SI.putD {D : Addr} {o : HO} (si : SI W g0 H0 env st g σ H) (h0 : H0 D = none) (s : H D ≠ none) (nf : g.fz D = none) (nm : D ∉ g.mu) (nz : ∀ o u, H D ≠ some (.frz o u)) (no : ∀ (i : Nat) d, env[i]? = some (.ow d) → σ[i]? ≠ some (some (.ref D))) : SI W g0 H0 env st g σ (upd H D o) := by
  refine ⟨si.hs.own nf nm s nz, ⟨si.fr.le, fun b x hb n => ?_, si.fr.fz, si.fr.mu, fun b hb => ?_⟩, si.er.len, fun i t x e1 e2 => ?_, si.er.ap⟩
  · rw [upd_ne fun z => by rw [z, h0] at hb; cases hb]
    exact si.fr.keep b x hb n
  · rw [upd_ne fun z => by rw [z] at hb; exact hb h0]
    exact si.fr.al b hb
  · have q := si.er.sl i t x e1 e2
    cases t with
    | emp => trivial
    | pu d => exact q
    | ex c fs => trivial
    | hd a c fs => exact q
    | ow d =>
      obtain ⟨a, ea, n1, n2, n3, r⟩ := q
      exact ⟨a, ea, n1, n2, n3, r.at (upd_ne fun z => no i d e1 (by rw [e2, ea, z])) (.refl g)⟩
/-! ### one clause -/
def tMx (W : Wld) (m : Env → Sto → R D) : TE := fun σ H Q => ∃ g0 H0, tM W g0 H0 WF0 m σ H Q
def tBx (W : Wld) (p : Pat) : TG := fun v σ H Q => ∃ g0 H0, tB W g0 H0 p v σ H Q
def tCx (W : Wld) (m : Env → Sto → R Bool) : TT := fun σ H Q => ∃ g0 H0 env st g, SI W g0 H0 env st g σ H ∧ Aft W g0 H0 WF0 env σ g (m env st) (fun b _ _ H' => Q b H')
def tIx (W : Wld) (u : Bool) (m : Env → Sto → R Src) : TI := fun σ H Q => ∃ g0 H0, tI W g0 H0 WF0 u m σ H Q
/-- what is wanted of the rest of the list at L -/
def KR (W : Wld) (g0 : Gh) (H0 : Hp) (env : Env) (σ : St) (L : Addr) (Q : VK) (acc : List D) (g : Gh) : R (List D) → Prop
  | .ok l st => (acc ++ l).length ≤ SZ ∧ ∀ g' H' vs, Gh.le g g' → SI W g0 H0 env st g' σ H' → g'.fz L = none → L ∉ g'.mu → (∀ (i : Nat) d, env[i]? = some (.ow d) → σ[i]? ≠ some (some (.ref L))) → H' L = some (.lst vs) → RVs g' vs (acc ++ l) → Q (.ref L) H'
  | _ => False
variable {L : Addr} {Q : VK} {acc : List D}
theorem KR.up {r : R (List D)} (h : KR W g0 H0 env σ L Q acc g1 r) (le : Gh.le g1 g) : KR W g0 H0 env σ L Q acc g r := by
  cases r with
  | ok l st => exact ⟨h.1, fun g' H' vs l' => h.2 g' H' vs (le.trans l')⟩
  | _ => exact h
theorem KR.add {r : R (List D)} {o : List D} (h : KR W g0 H0 env σ L Q acc g (r.bind fun l s => .ok (o ++ l) s)) : KR W g0 H0 env σ L Q (acc ++ o) g r := by
  cases r with
  | ok l st =>
    obtain ⟨h1, h2⟩ := h
    exact ⟨by rw [List.append_assoc]; exact h1, fun g' H' vs l' si a b c e f => h2 g' H' vs l' si a b c e (by rw [← List.append_assoc]; exact f)⟩
  | _ => exact h
theorem KR.add0 {r : R (List D)} (h : KR W g0 H0 env σ L Q acc g (r.bind fun l s => .ok ([] ++ l) s)) : KR W g0 H0 env σ L Q acc g r := by
  have q := KR.add h
  rw [List.append_nil] at q
  exact q
theorem KR.size {r : R (List D)} (h : KR W g0 H0 env σ L Q acc g r) : acc.length ≤ SZ := by
  cases r with
  | ok l st =>
    have q := h.1
    rw [List.length_append] at q
    omega
  | _ => exact h.elim
/-- a step of it, in the block's own frame -/
theorem KR.aft {α : Type} {r : R α} {f : α → Sto → R (List D)} {ga : Gh} {Ha : Hp} {Wy : WX} {enb : Env} {σb : St} (h : KR W g0 H0 env σ L Q acc g (r.bind f)) : Aft W ga Ha Wy enb σb g r (fun a st' g' _ => KR W g0 H0 env σ L Q acc g' (f a st')) := by
  cases r with
  | ok a st => exact fun g' H' le si => KR.up (r := f a st) h le
  | _ => exact h.elim
theorem KR.bad {r : R (List D)} (h : KR W g0 H0 env σ L Q acc g r) (e : r = .bad) : False := by subst e; exact h
theorem bind_assocR {α β γ : Type} (r : R α) (f : α → Sto → R β) (k : β → Sto → R γ) : (r.bind f).bind k = r.bind fun a s => (f a s).bind k := by cases r <;> rfl
/-! ### the loops -/
theorem g0_no {a : Addr} (si : SI W g0 H0 env st g σ H) (h : H a = none) : H0 a = none ∧ g0.fz a = none ∧ a ∉ g0.mu := by
  refine ⟨?_, ?_, fun m => ?_⟩
  · cases e : H0 a with
    | none => rfl
    | some x => exact absurd h (si.fr.al a (by rw [e]; simp))
  · cases e : g0.fz a with
    | none => rfl
    | some d =>
      have q := si.fr.le.fz a d e
      rw [si.hs.nofz h] at q
      cases q
  · obtain ⟨n, hn⟩ := List.mem_iff_getElem?.mp m
    exact si.hs.nomu h (List.mem_iff_getElem?.mpr ⟨n, si.fr.le.mu n a hn⟩)
theorem own_no {a : Addr} (si : SI W g0 H0 env st g σ H) (h : H a = none) (i : Nat) (d : D) (e : env[i]? = some (.ow d)) : σ[i]? ≠ some (some (.ref a)) := fun e2 => by
  obtain ⟨_, _, _, r⟩ := si.ownAt e e2
  exact r.some h
/-- a turn of the first clause -/
def cpF (p : Pat) (env : Env) (mc : Env → Sto → R Bool) (me : Env → Sto → R D) (d : D) (s : Sto) : R (List D) := match bindPat p d (wipeE env (slotsP p)) with
  | none => .bad
  | some env' => (mc env' s).bind fun b s => if b then (me env' s).bind fun x s => .ok [x] s else .ok [] s
theorem kr_start {F : D → Sto → R (List D)} {src : Src} {c : Bool} (si : SI W g0 H0 env st g σ H) (hL : H L = none)
    (af : Aft W g0 H0 Wx env σ g (if c = true then (noExc (compS F src st)).bind fun l s => if l.length ≤ SZ then .ok (.lst l) s else .bad else .bad) (Nw W H0 env σ Q)) : c = true ∧ KR W g0 H0 env σ L Q [] g (compN (nxtOf src) F (szOf src + 1) 0 st) := by
  cases c with
  | false => exact af.elim
  | true =>
    refine ⟨rfl, ?_⟩
    rw [← compS_eq]
    rw [if_pos rfl] at af
    revert af
    cases compS F src st with
    | bad => exact fun af => af
    | exc c fs s' => exact fun af => af
    | ok l s' =>
      intro af
      have af : Aft W g0 H0 Wx env σ g (if l.length ≤ SZ then .ok (.lst l) s' else .bad) (Nw W H0 env σ Q) := af
      split at af
      · rename_i hz
        refine ⟨hz, fun g' H' vs le si' nf nm no hD rv => (af g' H' le si').2 L ⟨nf, nm, (g0_no si hL).1, no, vs, hD, rv⟩⟩
      · exact af.elim
theorem si_turn {a : Gh} {b : Hp} {p : Pat} {d : D} {env' : Env} {σ2 : St} {ps : List Nat} (hp : ∀ i, i ∈ slotsP p → i ∈ ps) (si3 : SI W a b (wipeE env ps) st0 g1 (L2.wipe σ ps) H1) (eb : bindPat p d (wipeE env ps) = some env') (ho : ∀ j, j ∉ slotsP p → σ2[j]? = (L2.wipe σ ps)[j]?)
    (si : SI W g0 H0 env' st g σ2 H) (le : Gh.le g1 g) : SI W g0 H0 (wipeE env ps) st g (L2.wipe σ ps) H :=
  si3.back si le fun i d e => by
    have hi : i ∉ slotsP p := fun z => (wipeE_ow e).2 (hp i z)
    exact ⟨(bindPat_out eb hi).trans e, ho i hi⟩
theorem lc_imp {mi : Env → Sto → R Src} {p : Pat} {mc : Env → Sto → R Bool} {me : Env → Sto → R D} {u : Bool} (hu : u = true → ∃ is, p = .tp is)
    (h : tMF W g0 H0 Wx (fun env s => (mi env s).bind fun src s => if notOw env (slotsP p) then (noExc (compS (cpF p env mc me) src s)).bind fun l s => if l.length ≤ SZ then .ok (.lst l) s else .bad else .bad) σ H Q) :
    tLc (tI W g0 H0 Wx u mi) (tBx W p) (tCx W mc) (tMx W me) (slotsP p) σ H Q := by
  obtain ⟨env, st, g, si, af⟩ := h
  refine ⟨env, st, g, si, af.bind.imp fun src st1 g1 H1 l1 si1 af1 J js L hL => ?_⟩
  obtain ⟨hno, kr⟩ := kr_start si1 hL af1
  obtain ⟨h0, n0, m0⟩ := g0_no si1 hL
  have siL := si1.next (si1.hs.lay hL (o := .lst [])) (Frm.lay hL)
  refine ⟨fun i m H => ∃ st g vs acc, SI W g0 (upd H0 L (.lst vs)) (wipeE env (slotsP p)) st g (L2.wipe σ (slotsP p)) H ∧ Gh.le g1 g ∧ RVs g vs acc ∧ KR W g0 H0 env σ L Q acc g (compN (nxtOf src) (cpF p env mc me) m i st),
    ⟨szOf src + 1, st1, g1, [], [], ?_, .refl g1, .nil, kr⟩, ?_⟩
  · exact (siL.wipe (slotsP p)).base upd_same h0 (si1.hs.nofz hL) (si1.hs.nomu hL) fun i d e e2 => by
      obtain ⟨e', hi⟩ := wipeE_ow e
      rw [wipeS_out hi] at e2
      exact own_no si1 hL i d e' e2
  · rintro i m H ⟨st2, g2, vs, acc, si2, le2, rv, k⟩
    cases m with
    | zero => exact k.elim
    | succ m =>
      unfold compN at k
      cases e : nxtOf src i st2 with
      | none => rw [e] at k; exact k.elim
      | some o =>
        rw [e] at k
        obtain ⟨hstop, hgo⟩ := js_nxt js le2 si2 e
        cases o with
        | none =>
          obtain ⟨si3, hD, nf, nm, no⟩ := si2.unbase h0 n0 m0
          refine .inl ⟨hstop rfl, k.2 g2 H vs (.refl g2) (si1.unwipe si3 le2 hno) nf nm (fun i d e => ?_) hD (by rw [List.append_nil]; exact rv)⟩
          have hi := notOw_at hno e
          rw [← wipeS_out hi (σ := σ)]
          exact no i d (by rw [wipeE_out hi]; exact e)
        | some d =>
          obtain ⟨hgo1, hy⟩ := hgo d rfl
          refine .inr ⟨hgo1, fun H' => ∃ st g vs acc, SI W g0 (upd H0 L (.lst vs)) (wipeE env (slotsP p)) st g (L2.wipe σ (slotsP p)) H' ∧ Gh.le g1 g ∧ RVs g vs acc ∧ KR W g0 H0 env σ L Q acc g (compN (nxtOf src) (cpF p env mc me) m (i + 1) st), fun H' h => ⟨m, Nat.lt_succ_self m, h⟩, fun x H' hx => ?_⟩
          obtain ⟨si3, yr⟩ := hy x H' hx
          simp only at k
          cases eb : bindPat p d (wipeE env (slotsP p)) with
          | none => unfold cpF at k; rw [eb] at k; exact k.elim
          | some env' =>
            have k : KR W g0 H0 env σ L Q acc g2 (((mc env' st2).bind fun b s => if b then (me env' s).bind fun x s => .ok [x] s else .ok [] s).bind fun o s1 => (compN (nxtOf src) (cpF p env mc me) m (i + 1) s1).bind fun l s2 => .ok (o ++ l) s2) := by
              unfold cpF at k; rw [eb] at k; exact k
            rw [bind_assocR] at k
            refine ⟨g0, upd H0 L (.lst vs), u, _, st2, g2, d, env', si3, yr, hu, eb, fun σ2 hl ho si4 => ⟨wipe_again hl ho, g0, upd H0 L (.lst vs), env', st2, g2, si4, k.aft.imp fun b st4 g4 H4 l4 si5 k4 => ?_⟩⟩
            cases b with
            | false => exact ⟨st4, g4, vs, acc, si_turn (fun _ h => h) si3 eb ho si5 l4, le2.trans l4, rv.mono l4, KR.add0 k4⟩
            | true =>
              have k4 : KR W g0 H0 env σ L Q acc g4 (((me env' st4).bind fun x s => .ok [x] s).bind fun o s1 => (compN (nxtOf src) (cpF p env mc me) m (i + 1) s1).bind fun l s2 => .ok (o ++ l) s2) := k4
              rw [bind_assocR] at k4
              refine ⟨g0, upd H0 L (.lst vs), env', st4, g4, si5, k4.aft.imp fun y st5 g5 H5 l5 si6 k5 v rv' => ?_⟩
              obtain ⟨si7, hD, nf, nm, no⟩ := si6.unbase h0 n0 m0
              have k6 : KR W g0 H0 env σ L Q (acc ++ [y]) g5 (compN (nxtOf src) (cpF p env mc me) m (i + 1) st5) := KR.add (o := [y]) k5
              have sz := k6.size
              have l7 := (l4.trans l5)
              refine ⟨vs, hD, ?_, st5, g5, vs ++ [v], acc ++ [y], ?_, le2.trans l7, pairedApp (rv.mono l7) (.cons rv' .nil), k6⟩
              · rw [pairedLen rv]
                rw [List.length_append] at sz
                exact lt_line (Nat.lt_of_succ_le (by simpa using sz))
              · exact si_turn (fun _ h => h) si3 eb ho ((si7.putD (o := .lst (vs ++ [v])) h0 (by rw [hD]; simp) nf nm (fun _ _ z => by rw [hD] at z; cases z) no).base upd_same h0 nf nm no) l7
/-! ### two clauses -/
/-- a turn of the second clause -/
def cqF (q : Pat) (env' : Env) (me : Env → Sto → R D) (d : D) (s : Sto) : R (List D) := match bindPat q d (wipeE env' (slotsP q)) with
  | none => .bad
  | some env2 => (me env2 s).bind fun x s => .ok [x] s
def cp2F (p q : Pat) (env : Env) (m2 : Env → Sto → R Src) (me : Env → Sto → R D) (d : D) (s : Sto) : R (List D) := match bindPat p d (wipeE env (slotsP p ++ slotsP q)) with
  | none => .bad
  | some env' => (m2 env' s).bind fun src2 s => compS (cqF q env' me) src2 s
theorem cp2F_eq {p q : Pat} {m2 : Env → Sto → R Src} {me : Env → Sto → R D} {d : D} {s : Sto} {ps : List Nat} {env' : Env} (h : slotsP p ++ slotsP q = ps) (eb : bindPat p d (wipeE env ps) = some env') : cp2F p q env m2 me d s = (m2 env' s).bind fun src2 s => compS (cqF q env' me) src2 s := by
  unfold cp2F; rw [h, eb]
theorem compN_succ {nx : Nat → Sto → Option (Option D)} {f : D → Sto → R (List D)} {k i : Nat} {s : Sto} : compN nx f (k + 1) i s = match nx i s with
    | none => .bad
    | some none => .ok [] s
    | some (some d) => (f d s).bind fun o s1 => (compN nx f k (i + 1) s1).bind fun l s2 => .ok (o ++ l) s2 := rfl
theorem cqF_eq {q : Pat} {env' env2 : Env} {me : Env → Sto → R D} {d : D} {s : Sto} (eb : bindPat q d (wipeE env' (slotsP q)) = some env2) : cqF q env' me d s = (me env2 s).bind fun x s => .ok [x] s := by
  unfold cqF; rw [eb]
theorem if_tt {P P' : Prop} {inst : Decidable (true = true)} (h : P) : @ite _ (true = true) inst P P' := by rw [if_pos rfl]; exact h
theorem bind_pull {r : R (List D)} {F : Sto → R (List D)} {o : List D} : ((r.bind fun l s => .ok (o ++ l) s).bind fun O s1 => (F s1).bind fun l s2 => .ok (O ++ l) s2) = (r.bind fun O s1 => (F s1).bind fun l s2 => .ok (O ++ l) s2).bind fun l s => R.ok (o ++ l) s := by
  cases r with
  | ok l s =>
    show (F s).bind _ = ((F s).bind _).bind _
    cases F s with
    | ok l2 s2 => simp [R.bind, List.append_assoc]
    | _ => rfl
  | _ => rfl
theorem lc2_imp {mi : Env → Sto → R Src} {p q : Pat} {m2 : Env → Sto → R Src} {me : Env → Sto → R D} {u u2 : Bool} (hu : u = true → ∃ is, p = .tp is) (hu2 : u2 = true → ∃ is, q = .tp is)
    (h : tMF W g0 H0 Wx (fun env s => (mi env s).bind fun src s => if notOw env (slotsP p ++ slotsP q) then (noExc (compS (cp2F p q env m2 me) src s)).bind fun l s => if l.length ≤ SZ then .ok (.lst l) s else .bad else .bad) σ H Q) :
    tLc2 (tI W g0 H0 Wx u mi) (tBx W p) tYes (tIx W u2 m2) (tBx W q) tYes (tMx W me) (slotsP p ++ slotsP q) (slotsP q) σ H Q := by
  obtain ⟨env, st, g, si, af⟩ := h
  refine ⟨env, st, g, si, af.bind.imp fun src st1 g1 H1 l1 si1 af1 J js L hL => ?_⟩
  obtain ⟨hno, kr⟩ := kr_start si1 hL af1
  obtain ⟨h0, n0, m0⟩ := g0_no si1 hL
  have siL := si1.next (si1.hs.lay hL (o := .lst [])) (Frm.lay hL)
  generalize hps : slotsP p ++ slotsP q = ps at *
  have inP : ∀ i, i ∈ slotsP p → i ∈ ps := fun i h => by rw [← hps]; exact List.mem_append_left _ h
  have inQ : ∀ i, i ∈ slotsP q → i ∈ ps := fun i h => by rw [← hps]; exact List.mem_append_right _ h
  refine ⟨fun i m H => ∃ st g vs acc, SI W g0 (upd H0 L (.lst vs)) (wipeE env ps) st g (L2.wipe σ ps) H ∧ Gh.le g1 g ∧ RVs g vs acc ∧ KR W g0 H0 env σ L Q acc g (compN (nxtOf src) (cp2F p q env m2 me) m i st),
    ⟨szOf src + 1, st1, g1, [], [], ?_, .refl g1, .nil, kr⟩, ?_⟩
  · exact (siL.wipe ps).base upd_same h0 (si1.hs.nofz hL) (si1.hs.nomu hL) fun i d e e2 => by
      obtain ⟨e', hi⟩ := wipeE_ow e
      rw [wipeS_out hi] at e2
      exact own_no si1 hL i d e' e2
  · rintro i m H ⟨st2, g2, vs, acc, si2, le2, rv, k⟩
    cases m with
    | zero => exact k.elim
    | succ m =>
      unfold compN at k
      cases e : nxtOf src i st2 with
      | none => rw [e] at k; exact k.elim
      | some o =>
        rw [e] at k
        obtain ⟨hstop, hgo⟩ := js_nxt js le2 si2 e
        cases o with
        | none =>
          obtain ⟨si3, hD, nf, nm, no⟩ := si2.unbase h0 n0 m0
          refine .inl ⟨hstop rfl, k.2 g2 H vs (.refl g2) (si1.unwipe si3 le2 hno) nf nm (fun i d e => ?_) hD (by rw [List.append_nil]; exact rv)⟩
          have hi := notOw_at hno e
          rw [← wipeS_out hi (σ := σ)]
          exact no i d (by rw [wipeE_out hi]; exact e)
        | some d =>
          obtain ⟨hgo1, hy⟩ := hgo d rfl
          refine .inr ⟨hgo1, fun H' => ∃ st g vs acc, SI W g0 (upd H0 L (.lst vs)) (wipeE env ps) st g (L2.wipe σ ps) H' ∧ Gh.le g1 g ∧ RVs g vs acc ∧ KR W g0 H0 env σ L Q acc g (compN (nxtOf src) (cp2F p q env m2 me) m (i + 1) st), fun H' h => ⟨m, Nat.lt_succ_self m, h⟩, fun x H' hx => ?_⟩
          obtain ⟨si3, yr⟩ := hy x H' hx
          simp only at k
          cases eb : bindPat p d (wipeE env ps) with
          | none => unfold cp2F at k; rw [hps, eb] at k; exact k.elim
          | some env' =>
            have k : KR W g0 H0 env σ L Q acc g2 (((m2 env' st2).bind fun src2 s => compS (cqF q env' me) src2 s).bind fun o s1 => (compN (nxtOf src) (cp2F p q env m2 me) m (i + 1) s1).bind fun l s2 => .ok (o ++ l) s2) := by
              rw [cp2F_eq hps eb] at k; exact k
            rw [bind_assocR] at k
            refine ⟨g0, upd H0 L (.lst vs), u, _, st2, g2, d, env', si3, yr, hu, eb, fun σ2 hl ho si4 => ⟨wipe_again hl fun j hj => ho j fun z => hj (inP j z), ?_⟩⟩
            simp only [tYes, ↓reduceIte]
            refine ⟨g0, upd H0 L (.lst vs), env', st2, g2, si4, k.aft.imp fun src2 st4 g4 H4 l4 si5 k4 J1 js1 => ?_⟩
            rw [compS_eq] at k4
            -- the inner loop
            have hback : ∀ {st5 : Sto} {g5 : Gh} {vs5 : List V} {H5 : Hp} {en : Env} {σ5 : St}, (∀ i, i ∉ slotsP q → en[i]? = env'[i]? ∧ σ5[i]? = σ2[i]?) → SI W g0 (upd H0 L (.lst vs5)) en st5 g5 σ5 H5 → Gh.le g4 g5 → SI W g0 (upd H0 L (.lst vs5)) (wipeE env ps) st5 g5 (L2.wipe σ ps) H5 := fun {st5 g5 vs5 H5 en σ5} hen s l =>
              si3.back s (l4.trans l) fun i d e => by
                have hi := (wipeE_ow e).2
                obtain ⟨q1, q2⟩ := hen i fun z => hi (inQ i z)
                exact ⟨q1.trans ((bindPat_out eb fun z => hi (inP i z)).trans e), q2.trans (ho i fun z => hi (inP i z))⟩
            refine ⟨fun j n H => ∃ st g vs acc, SI W g0 (upd H0 L (.lst vs)) (wipeE env' (slotsP q)) st g (L2.wipe σ2 (slotsP q)) H ∧ Gh.le g4 g ∧ RVs g vs acc ∧ KR W g0 H0 env σ L Q acc g ((compN (nxtOf src2) (cqF q env' me) n j st).bind fun o s1 => (compN (nxtOf src) (cp2F p q env m2 me) m (i + 1) s1).bind fun l s2 => .ok (o ++ l) s2),
              ⟨szOf src2 + 1, st4, g4, vs, acc, si5.wipe (slotsP q), .refl g4, rv.mono l4, k4⟩, ?_⟩
            rintro j n H ⟨st5, g5, vs5, acc5, si6, le5, rv5, k5⟩
            cases n with
            | zero => exact k5.elim
            | succ n =>
              rw [compN_succ] at k5
              cases e2 : nxtOf src2 j st5 with
              | none => rw [e2] at k5; exact k5.elim
              | some o2 =>
                rw [e2] at k5
                obtain ⟨hstop2, hgo2⟩ := js_nxt js1 le5 si6 e2
                cases o2 with
                | none =>
                  exact .inl ⟨hstop2 rfl, st5, g5, vs5, acc5, hback (fun i hi => ⟨wipeE_out hi, wipeS_out hi⟩) si6 le5, le2.trans (l4.trans le5), rv5, KR.add0 k5⟩
                | some d2 =>
                  obtain ⟨hgo3, hy2⟩ := hgo2 d2 rfl
                  refine .inr ⟨hgo3, fun H' => ∃ st g vs acc, SI W g0 (upd H0 L (.lst vs)) (wipeE env' (slotsP q)) st g (L2.wipe σ2 (slotsP q)) H' ∧ Gh.le g4 g ∧ RVs g vs acc ∧ KR W g0 H0 env σ L Q acc g ((compN (nxtOf src2) (cqF q env' me) n (j + 1) st).bind fun o s1 => (compN (nxtOf src) (cp2F p q env m2 me) m (i + 1) s1).bind fun l s2 => .ok (o ++ l) s2), fun H' h => ⟨n, Nat.lt_succ_self n, h⟩, fun x2 H6 hx2 => ?_⟩
                  obtain ⟨si7, yr2⟩ := hy2 x2 H6 hx2
                  simp only at k5
                  cases eb2 : bindPat q d2 (wipeE env' (slotsP q)) with
                  | none => unfold cqF at k5; rw [eb2] at k5; exact k5.elim
                  | some env2 =>
                    have k5 : KR W g0 H0 env σ L Q acc5 g5 ((((me env2 st5).bind fun x s => .ok [x] s).bind fun o s1 => (compN (nxtOf src2) (cqF q env' me) n (j + 1) s1).bind fun l s2 => .ok (o ++ l) s2).bind fun o s1 => (compN (nxtOf src) (cp2F p q env m2 me) m (i + 1) s1).bind fun l s2 => .ok (o ++ l) s2) := by
                      rw [cqF_eq eb2] at k5; exact k5
                    rw [bind_assocR, bind_assocR] at k5
                    refine ⟨g0, upd H0 L (.lst vs5), u2, _, st5, g5, d2, env2, si7, yr2, hu2, eb2, fun σ3 hl3 ho3 si8 => ⟨wipe_again hl3 ho3, ?_⟩⟩
                    refine ⟨g0, upd H0 L (.lst vs5), env2, st5, g5, si8, k5.aft.imp fun y st6 g6 H7 l6 si9 k6 v rv' => ?_⟩
                    obtain ⟨si10, hD, nf, nm, no⟩ := si9.unbase h0 n0 m0
                    have k7 : KR W g0 H0 env σ L Q acc5 g6 (((compN (nxtOf src2) (cqF q env' me) n (j + 1) st6).bind fun l s2 => .ok ([y] ++ l) s2).bind fun o s1 => (compN (nxtOf src) (cp2F p q env m2 me) m (i + 1) s1).bind fun l s2 => .ok (o ++ l) s2) := k6
                    rw [bind_pull] at k7
                    have k8 := KR.add (o := [y]) k7
                    have sz := k8.size
                    refine ⟨vs5, hD, ?_, st6, g6, vs5 ++ [v], acc5 ++ [y], ?_, le5.trans l6, pairedApp (rv5.mono l6) (.cons rv' .nil), k8⟩
                    · rw [pairedLen rv5]
                      rw [List.length_append] at sz
                      exact lt_line (Nat.lt_of_succ_le (by simpa using sz))
                    · exact si_turn (fun _ h => h) si7 eb2 ho3 ((si10.putD (o := .lst (vs5 ++ [v])) h0 (by rw [hD]; simp) nf nm (fun _ _ z => by rw [hD] at z; cases z) no).base upd_same h0 nf nm no) l6
end
end CF
/-! CFStmt -/
/-! Statements. -/
namespace CF
open PySem PySem.Spec L2
/-- what is wanted behind a statement -/
def AftS (W : Wld) (g0 : Gh) (H0 : Hp) (Wx : WX) (g : Gh) (r : R Fl) (D : Ends) : Prop := match r with
  | .ok (.nx env) st => ∀ σ g' H, Gh.le g g' → SI W g0 H0 env st g' σ H → D.nx σ H
  | .ok (.rt d) st => ∀ v env σ g' H, Gh.le g g' → SI W g0 H0 env st g' σ H → RV g' v d → D.rt v H
  | .exc c fs st => ∀ cls dd env σ g' H, Gh.le g g' → SI W g0 H0 env st g' σ H → ExD W H g' c fs cls dd → Wx cls dd σ H
  | .bad => False
def tS (W : Wld) (g0 : Gh) (H0 : Hp) (Wx : WX) (m : Env → Sto → R Fl) : TS := fun D σ H => ∃ env st g, SI W g0 H0 env st g σ H ∧ AftS W g0 H0 Wx g (m env st) D
theorem _root_.L2.PS.imp' {X : Cx} {s : Stmt} {t t' : TS} (h : PS X s t) (k : ∀ D σ H, t' D σ H → t D σ H) : PS X s t' := ⟨fun pins s σ H D I q => h.run pins s σ H D I (k D σ H q)⟩
theorem _root_.L2.PSs.imp' {X : Cx} {s : List Stmt} {t t' : TS} (h : PSs X s t) (k : ∀ D σ H, t' D σ H → t D σ H) : PSs X s t' := ⟨fun pins s σ H D I q => h.run pins s σ H D I (k D σ H q)⟩
section
variable {X : Cx} {W : Wld} {n : Nat} {g0 : Gh} {H0 : Hp} {Wx : WX} {env : Env} {σ : St} {st : Sto} {g g' : Gh} {H : Hp} {T : Tab} {C : CallF} {D : Ends} {pos : Pos} {i : Nat} {x : Str} {e o : E} {ee eo : Expr}
theorem AftS.up {r : R Fl} (h : AftS W g0 H0 Wx g r D) (l : Gh.le g g') : AftS W g0 H0 Wx g' r D := by
  cases r with
  | ok a st => cases a with
    | nx env => exact fun σ g2 H l2 si => h σ g2 H (l.trans l2) si
    | rt d => exact fun v env σ g2 H l2 si rv => h v env σ g2 H (l.trans l2) si rv
  | exc c fs st => exact fun cls dd env σ g2 H l2 si ex => h cls dd env σ g2 H (l.trans l2) si ex
  | bad => exact h
theorem AftS.bind {α : Type} {r : R α} {f : α → Sto → R Fl} (h : AftS W g0 H0 Wx g (r.bind f) D) : Aft W g0 H0 Wx env σ g r (fun a st' g' _ => AftS W g0 H0 Wx g' (f a st') D) := by
  cases r with
  | ok a st => exact fun g2 H2 l2 _ => AftS.up (r := f a st) h l2
  | exc c fs st => exact fun cls dd g2 H2 l2 si ex => h cls dd env σ g2 H2 l2 si ex
  | bad => exact h
/-- the next statement's state -/
theorem AftS.nx {env' : Env} {st' : Sto} (h : AftS W g0 H0 Wx g (.ok (.nx env') st') D) (si : SI W g0 H0 env' st' g σ H) : D.nx σ H := h σ g H (.refl g) si
/-! ### blocks -/
theorem cs_nil : PSs X [] (tS W g0 H0 Wx (exs T C .nil)) := pss_nil.imp' fun D σ H ⟨env, st, g, si, af⟩ => by
  simp only [exs] at af
  exact af.nx si
theorem ends_bk {r : R Fl} {a b : St → Hp → Prop} (h : AftS W g0 H0 Wx g r D) : AftS W g0 H0 Wx g r { D with bk := a, ct := b } := by
  cases r with
  | ok c st => cases c <;> exact h
  | exc c fs st => exact h
  | bad => exact h
theorem cs_cons {a : S} {r : Ss} {s1 : Stmt} {rest : List Stmt} (ha : PS X s1 (tS W g0 H0 Wx (ex T C a))) (hr : PSs X rest (tS W g0 H0 Wx (exs T C r))) : PSs X (s1 :: rest) (tS W g0 H0 Wx (exs T C (.cons a r))) :=
  (pss_cons ha hr).imp' fun D σ H ⟨env, st, g, si, af⟩ => by
    simp only [exs] at af
    refine ⟨env, st, g, si, ?_⟩
    revert af
    cases ex T C a env st with
    | ok c st' => cases c with
      | nx env' => exact fun af σ' g' H' l si' => ⟨env', st', g', si', af.up l⟩
      | rt d => exact fun af => af
    | exc c fs st' => exact fun af => af
    | bad => exact fun af => af
theorem SI.frz {d : CF.D} (si : SI W g0 H0 env st g σ H) (e : env[i]? = some (.ow d)) : ∃ g', Gh.le g g' ∧ SI W g0 H0 (env.set i (.pu d)) st g' σ H := by
  have hl : i < σ.length := by rw [← si.er.len]; exact (List.getElem?_eq_some_iff.mp e).1
  obtain ⟨y, ey⟩ : ∃ y, σ[i]? = some y := ⟨σ[i], List.getElem?_eq_getElem hl⟩
  obtain ⟨a, ea, n1, n2, n3, r⟩ := si.er.sl i _ y e ey
  subst ea
  -- the slot apart
  have si1 : SI W g0 H0 (env.set i .emp) st g σ H := by
    have q := si.setEmp (i := i) (y := some (.ref a))
    have eσ : σ.set i (some (.ref a)) = σ := by
      apply List.ext_getElem?
      intro j
      by_cases hj : i = j
      · subst hj; rw [List.getElem?_set_self hl, ey]
      · rw [List.getElem?_set_ne hj]
    rw [eσ] at q
    exact q
  have o : Own0 W H0 (env.set i .emp) σ g H a d := ⟨n1, n2, n3, fun j d' e1 e2 => by
    rcases set_cases e1 with ⟨_, h⟩ | ⟨hn, h⟩
    · cases h
    · exact hn (si.er.ap j i d' d a h e e2 ey), r⟩
  have si2 := si1.freeze o
  refine ⟨g.addF a d, addF_le n1, ?_⟩
  have q := si2.setPu (i := i) (v := .ref a) (d := d) (ow_rv r)
  have eσ : σ.set i (some (.ref a)) = σ := by
    apply List.ext_getElem?
    intro j
    by_cases hj : i = j
    · subst hj; rw [List.getElem?_set_self hl, ey]
    · rw [List.getElem?_set_ne hj]
  rw [eσ, List.set_set] at q
  exact q
/-- a slot is frozen: nothing runs -/
theorem cs_frz {r : Ss} {rest : List Stmt} (hr : PSs X rest (tS W g0 H0 Wx (exs T C r))) : PSs X rest (tS W g0 H0 Wx (exs T C (.cons (.frz i) r))) :=
  hr.imp' fun D σ H ⟨env, st, g, si, af⟩ => by
    simp only [exs, ex] at af
    cases e : env[i]? with
    | none => rw [e] at af; exact af.elim
    | some s =>
      rw [e] at af
      cases s with
      | ow d =>
        obtain ⟨g', l, si'⟩ := si.frz e
        exact ⟨_, st, g', si', AftS.up af l⟩
      | _ => exact af.elim
/-! ### small statements -/
theorem cs_pass : PS X (.Pass pos) (tS W g0 H0 Wx (ex T C .pass)) := ps_pass.imp' fun D σ H ⟨env, st, g, si, af⟩ => by
  simp only [ex] at af
  exact af.nx si
theorem cs_doc {y j p} {r : Ss} {rest : List Stmt} (hr : PSs X rest (tS W g0 H0 Wx (exs T C r))) : PSs X (.Expr (.Constant (.str y) j p) pos :: rest) (tS W g0 H0 Wx (exs T C r)) :=
  (pss_cons ps_doc hr).imp' fun D σ H h => h
theorem cs_ex (he : PE X ee (tM W g0 H0 Wx (ev T C e))) (hs : swapsWith ee none pos.line X.env = pure false) : PS X (.Expr ee pos) (tS W g0 H0 Wx (ex T C (.ex e))) :=
  (ps_expr he hs).imp' fun D σ H ⟨env, st, g, si, af⟩ => by
    simp only [ex] at af
    exact ⟨env, st, g, si, af.bind.imp fun d st1 g1 H1 l1 si1 af1 v rv => af1.nx si1⟩
theorem cs_ret (he : PE X ee (tM W g0 H0 Wx (ev T C e))) : PS X (.Return (some ee) pos) (tS W g0 H0 Wx (ex T C (.ret e))) :=
  (ps_ret he).imp' fun D σ H ⟨env, st, g, si, af⟩ => by
    simp only [ex] at af
    exact ⟨env, st, g, si, af.bind.imp fun d st1 g1 H1 l1 si1 af1 v rv => af1 v env σ g1 H1 (.refl g1) si1 rv⟩
theorem cs_retN : PS X (.Return none pos) (tS W g0 H0 Wx (ex T C .retN)) := ps_retN.imp' fun D σ H ⟨env, st, g, si, af⟩ => by
  simp only [ex] at af
  exact af .non env σ g H (.refl g) si True.intro
theorem cs_cnd {c : E} {ec : Expr} {a b : Ss} {sa sb : List Stmt} (hc : PT X ec (tMB W g0 H0 Wx (ev T C c))) (ha : PSs X sa (tS W g0 H0 Wx (exs T C a))) (hb : PSs X sb (tS W g0 H0 Wx (exs T C b))) : PS X (.If ec sa sb pos) (tS W g0 H0 Wx (ex T C (.cnd c a b))) :=
  (ps_if hc ha hb).imp' fun D σ H ⟨env, st, g, si, af⟩ => by
    simp only [ex] at af
    refine ⟨env, st, g, si, af.bind.imp fun k st1 g1 H1 l1 si1 af1 => ?_⟩
    cases k with
    | true => exact ⟨env, st1, g1, si1, af1⟩
    | false => exact ⟨env, st1, g1, si1, af1⟩
/-! ### stores -/
theorem cs_set (hN : X.N.Nodup) (hi : X.N[i]? = some x) (hx : Loc X.env.scope x) (hf : X.fn x = true ∨ X.env.scope.names.lookup x = some .local) {p : Pos} (he : PE X ee (tM W g0 H0 Wx (ev T C e))) (hs : swapsWith ee (some (.Name x p)) pos.line X.env = pure false) :
    PS X (.Assign [.Name x p] ee pos) (tS W g0 H0 Wx (ex T C (.asg (.nm i) e))) :=
  (ps_set hN hi hx he hs hf).imp' fun D σ H ⟨env, st, g, si, af⟩ => by
    simp only [ex] at af
    refine ⟨env, st, g, si, af.bind.imp fun d st1 g1 H1 l1 si1 af1 v rv => ?_⟩
    simp only [bindPat] at af1
    split at af1
    · rename_i h
      split at h <;> cases h
      exact af1.nx (si1.setPu rv)
    · exact af1.elim
theorem cs_own {f : F} (hN : X.N.Nodup) (hi : X.N[i]? = some x) (hx : Loc X.env.scope x) (hf : X.fn x = true ∨ X.env.scope.names.lookup x = some .local) {p : Pos} (he : PE X ee (tMF W g0 H0 Wx (evF T C f))) (hs : swapsWith ee (some (.Name x p)) pos.line X.env = pure false) (hflat : ∀ env s d s', evF T C f env s = .ok d s' → flatD d = false) :
    PS X (.Assign [.Name x p] ee pos) (tS W g0 H0 Wx (ex T C (.own i f))) :=
  (ps_set hN hi hx he hs hf).imp' fun D σ H ⟨env, st, g, si, af⟩ => by
    simp only [ex] at af
    have hfl := hflat env st
    refine ⟨env, st, g, si, ?_⟩
    revert af hfl
    cases evF T C f env st with
    | bad => exact fun af _ => af
    | exc c fs s' => exact fun af _ cls dd g' H' l si' ex => af cls dd env σ g' H' l si' ex
    | ok d st1 =>
      intro af hfl g1 H1 l1 si1
      have af : AftS W g0 H0 Wx g (if i < env.length then .ok (.nx (env.set i (.ow d))) st1 else .bad) D := af
      refine ⟨fun h => ?_, fun p o => ?_⟩
      · rw [hfl d st1 rfl] at h; cases h
      · split at af
        · exact (AftS.up af l1).nx (si1.setOw o)
        · exact af.elim
theorem cs_tup {is : List Nat} {es : List Expr} {k : Nat} {p : Pos} (xw : XW X W) (hc : X.calm = true) (hN : X.N.Nodup) (h : NmsOk X is es) (he : PE X ee (tM W g0 H0 Wx (ev T C e))) (hs : swapsWithSole [.Tuple es k p] ee pos.line X.env = pure false) (hw : swappedStores [.Tuple es k p] ee X.env = pure none) :
    PS X (.Assign [.Tuple es k p] ee pos) (tS W g0 H0 Wx (ex T C (.asg (.tp is) e))) :=
  (ps_asg he (cg_tp (W := W) (g0 := g0) (H0 := H0) xw hc hN h) hs hw (by simp [assignEach])).imp' fun D σ H ⟨env, st, g, si, af⟩ => by
    simp only [ex] at af
    refine ⟨env, st, g, si, af.bind.imp fun d st1 g1 H1 l1 si1 af1 v rv => ?_⟩
    cases hb : bindPat (.tp is) d env with
    | none => rw [hb] at af1; exact af1.elim
    | some env' =>
      rw [hb] at af1
      exact ⟨false, env, st1, g1, d, env', si1, rv, (fun z => by cases z), hb, fun σ' _ _ si' => af1.nx si'⟩
theorem cs_par {j : Nat} {y : Str} {a b : E} {ea eb : Expr} {px py pt : Pos} {kt k2 pt2} (hc : X.calm = true) (hN : X.N.Nodup) (hi : X.N[i]? = some x) (hj : X.N[j]? = some y) (hij : i ≠ j)
    (hx : X.env.scope.names.lookup x = some .local) (hy : X.env.scope.names.lookup y = some .local) (ha : PE X ea (tM W g0 H0 Wx (ev T C a))) (hb : PE X eb (tM W g0 H0 Wx (ev T C b)))
    (hst : starEach [ea, eb] X.env = (false, eval ea X.env) :: starEach [eb] X.env) (hst2 : starEach [eb] X.env = (false, eval eb X.env) :: starEach [] X.env)
    (hw : swappedStores [.Tuple [.Name x px, .Name y py] kt pt] (.Tuple [ea, eb] k2 pt2) X.env = pure (some [x, y]))
    (hs : swapsWithSole [.Tuple [.Name x px, .Name y py] kt pt] (.Tuple [ea, eb] k2 pt2) pos.line X.env = pure false) :
    PS X (.Assign [.Tuple [.Name x px, .Name y py] kt pt] (.Tuple [ea, eb] k2 pt2) pos) (tS W g0 H0 Wx (ex T C (.par i j a b))) :=
  (ps_par hc hN hi hj hij hx hy (pa_cons ha (pa_cons hb pa_nil hst2) hst) hw hs).imp' fun D σ H ⟨env, st, g, si, af⟩ => by
    simp only [ex] at af
    refine ⟨env, st, g, si, af.bind.imp fun d1 st1 g1 H1 l1 si1 af1 v rv => ⟨env, st1, g1, si1, af1.bind.imp fun d2 st2 g2 H2 l2 si2 af2 w rw' => ⟨v, w, rfl, ?_⟩⟩⟩
    split at af2
    · exact af2.nx ((si2.setPu (rv.mono l2)).setPu rw')
    · exact af2.elim
theorem cs_aug (hN : X.N.Nodup) (hi : X.N[i]? = some x) (hx : Loc X.env.scope x) (hf : X.fn x = true ∨ X.env.scope.names.lookup x = some .local) {p : Pos} (he : PE X ee (tM W g0 H0 Wx (ev T C e))) :
    PS X (.AugAssign (.Name x p) .Add ee pos) (tS W g0 H0 Wx (ex T C (.aug i e))) :=
  (ps_aug hN hi hx he ip_add hf).imp' fun D σ H ⟨env, st, g, si, af⟩ => by
    simp only [ex] at af
    cases er : readV env i with
    | none => rw [er] at af; exact af.elim
    | some dx =>
      rw [er] at af
      obtain ⟨v, h1, h2⟩ := si.readV er
      refine ⟨v, h1, env, st, g, si, (AftS.bind (r := ev T C e env st) af).imp fun d st1 g1 H1 l1 si1 af1 y ry => ?_⟩
      have h2 := h2.mono l1
      unfold addD at af1
      split at af1
      · cases h2.int_inv; cases ry.int_inv
        exact ⟨_, _, rfl, rfl, AftS.nx af1 (si1.setPu rfl)⟩
      · exact af1.elim
/-! ### fields -/
theorem ins_nl {m c : Nat} {fs : List (Nat × CF.D)} (h : insAt st m = some (c, fs)) : ∀ l, st[m]? ≠ some (.lck l) := fun l e => by
  unfold insAt at h
  rw [e] at h
  cases h
theorem ins_put (wok : WOk W) {m c : Nat} {fs : List (Nat × CF.D)} {a : Addr} {C : Addr} {dx : Addr} {vs : List (Str × V)} {k : Nat} {d : CF.D} {v : V} (si : SI W g0 H0 env st g σ H) (nl : ∀ l, st[m]? ≠ some (.lck l)) (hm : g.mu[m]? = some a) (hC : W.cls c = some C) (p : Paired (fun p q => p.1 = W.an q.1 ∧ RV g p.2 q.2) vs fs) (r : RV g v d) :
    SI W g0 H0 env (st.set m (.ins c (putField fs k d))) g σ (upd H a (.ins C dx (putF (W.an k) v vs))) :=
  si.next (si.hs.put hm nl ⟨C, dx, _, hC, upd_same, fs_put wok r p⟩) (Frm.put (List.mem_iff_getElem?.mpr ⟨m, hm⟩))
theorem fs_len {vs : List (Str × V)} {fs : List (Nat × CF.D)} (p : Paired (fun p q => p.1 = W.an q.1 ∧ RV g p.2 q.2) vs fs) : vs.length = fs.length := pairedLen p
theorem cs_seta (xw : XW X W) (wok : WOk W) {k : Nat} {p : Pos} (ho : PE X eo (tM W g0 H0 Wx (ev W.T C o))) (he : PE X ee (tM W g0 H0 Wx (ev W.T C e))) (hs : swapsWith ee (some (.Attribute eo (W.an k) p)) pos.line X.env = pure false) :
    PS X (.Assign [.Attribute eo (W.an k) p] ee pos) (tS W g0 H0 Wx (ex W.T C (.seta o k e))) :=
  (ps_fld ho he hs).imp' fun D σ H ⟨env, st, g, si, af⟩ => by
    simp only [ex] at af
    refine ⟨env, st, g, si, af.bind.imp fun d1 st1 g1 H1 l1 si1 af1 v rv => ⟨env, st1, g1, si1, af1.bind.imp fun d2 st2 g2 H2 l2 si2 af2 y ry => ?_⟩⟩
    unfold setA at af2
    split at af2
    · rename_i m
      split at af2
      · rename_i c fs hi
        obtain ⟨a, Ca, dx, vs, ex, h1, h2, h3, h4, h5⟩ := si2.ins ry hi
        subst ex
        split at af2
        · rename_i hc
          refine ⟨a, Ca, dx, vs, rfl, h4, by rw [xw.K]; exact wok.cl c Ca h3, by rw [xw.K]; exact wok.at_ c Ca k h3 hc.1, by rw [fs_len h5]; omega, ?_⟩
          exact AftS.nx af2 (ins_put wok si2 (ins_nl hi) h1 h3 h5 (rv.mono l2))
        · exact af2.elim
      · exact af2.elim
    · exact af2.elim
theorem cs_auga (xw : XW X W) (wok : WOk W) {k : Nat} {p : Pos} (ho : PE X eo (tM W g0 H0 Wx (ev W.T C o))) (he : PE X ee (tM W g0 H0 Wx (ev W.T C e))) :
    PS X (.AugAssign (.Attribute eo (W.an k) p) .Add ee pos) (tS W g0 H0 Wx (ex W.T C (.auga o k e))) :=
  (ps_fldaug ho he in_add).imp' fun D σ H ⟨env, st, g, si, af⟩ => by
    simp only [ex] at af
    refine ⟨env, st, g, si, af.bind.imp fun d1 st1 g1 H1 l1 si1 af1 x rx => ?_⟩
    split at af1
    · rename_i m
      split at af1
      · rename_i c fs hi
        obtain ⟨a, Ca, dx, vs, ex, h1, h2, h3, h4, h5⟩ := si1.ins rx hi
        subst ex
        split at af1
        · rename_i d hd
          split at af1
          · rename_i hat
            obtain ⟨v, hv, rv⟩ := fs_at wok h5 hd
            refine ⟨a, Ca, dx, vs, v, rfl, h4, by rw [xw.K]; exact wok.cl c Ca h3, by rw [xw.K]; exact wok.at_ c Ca k h3 hat, hv, env, st1, g1, si1, af1.bind.imp fun d2 st2 g2 H2 l2 si2 af2 y ry => ?_⟩
            have rv := rv.mono l2
            unfold addD at af2
            split at af2
            · cases rv.int_inv; cases ry.int_inv
              refine ⟨_, _, rfl, rfl, ?_⟩
              simp only [R.of, R.bind] at af2
              split at af2
              · rename_i c' fs' hi2
                obtain ⟨a', Cb, dx', vs', ex', k1, k2, k3, k4, k5⟩ := si2.ins (rx.mono l2) hi2
                cases ex'
                split at af2
                · rename_i hc
                  obtain ⟨hc1, hc2⟩ := hc
                  subst hc1
                  rw [h3] at k3
                  cases k3
                  exact ⟨dx', vs', k4, by rw [fs_len k5]; omega, AftS.nx af2 (ins_put wok si2 (ins_nl hi2) k1 h3 k5 rfl)⟩
                · exact af2.elim
              · exact af2.elim
            · exact af2.elim
          · exact af1.elim
        · exact af1.elim
      · exact af1.elim
    · exact af1.elim
/-! ### loops -/
def forF (T : Tab) (C : CallF) (p : Pat) (b : Ss) (d : CF.D) (env : Env) (s : Sto) : R Fl := match bindPat p d env with
  | some env' => exs T C b env' s
  | none => .bad
theorem loopN_succ {nx : Nat → Sto → Option (Option CF.D)} {f : CF.D → Env → Sto → R Fl} {k i : Nat} {s : Sto} : loopN nx f (k + 1) i env s = match nx i s with
    | none => .bad
    | some none => .ok (.nx env) s
    | some (some d) => match f d env s with
      | .ok (.nx env') s' => loopN nx f k (i + 1) env' s'
      | .ok (.rt v) s' => .ok (.rt v) s'
      | .exc c fs s' => .exc c fs s'
      | .bad => .bad := rfl
theorem cs_for {u : Bool} {p : Pat} {it : I} {b : Ss} {tg iter : Expr} {body : List Stmt} (hu : u = true → ∃ is, p = .tp is) (hp : PassesOwn (model X.prog X.w) X.A X.env X.xe) (hc : X.calm = true) (hi : PI X tg iter (tI W g0 H0 Wx u (evI T C it))) (hg : PG X tg (tB W g0 H0 p)) (hb : PSs X body (tS W g0 H0 Wx (exs T C b)))
    (hs : ∀ x, foldedSetIterable iter X.env x = pure x) : PS X (.For tg iter body [] pos) (tS W g0 H0 Wx (ex T C (.for p it b))) :=
  (ps_for hp hc hi hg hb hs).imp' fun D σ H ⟨env, st, g, si, af⟩ => by
    simp only [ex] at af
    refine ⟨env, st, g, si, af.bind.imp fun src st1 g1 H1 l1 si1 af1 J js => ?_⟩
    have af1 : AftS W g0 H0 Wx g1 (loopS (forF T C p b) src env st1) D := af1
    rw [loopS_eq] at af1
    refine ⟨fun i m σ H => ∃ env st g, SI W g0 H0 env st g σ H ∧ Gh.le g1 g ∧ AftS W g0 H0 Wx g (loopN (nxtOf src) (forF T C p b) m i env st) D, ⟨szOf src + 1, env, st1, g1, si1, .refl g1, af1⟩, ?_⟩
    rintro i m σ H ⟨env, st, g, si, le, af⟩
    cases m with
    | zero => exact af.elim
    | succ m =>
      rw [loopN_succ] at af
      cases e : nxtOf src i st with
      | none => rw [e] at af; exact af.elim
      | some o =>
        rw [e] at af
        obtain ⟨hstop, hgo⟩ := js_nxt js le si e
        cases o with
        | none => exact .inl ⟨hstop rfl, AftS.nx af si⟩
        | some d =>
          obtain ⟨hgo1, hy⟩ := hgo d rfl
          refine .inr ⟨hgo1, fun σ H => ∃ env st g, SI W g0 H0 env st g σ H ∧ Gh.le g1 g ∧ AftS W g0 H0 Wx g (loopN (nxtOf src) (forF T C p b) m (i + 1) env st) D, fun σ' H' h => ⟨m, Nat.lt_succ_self m, h⟩, fun x H' hx => ?_⟩
          obtain ⟨si3, yr⟩ := hy x H' hx
          simp only at af
          cases eb : bindPat p d env with
          | none => unfold forF at af; rw [eb] at af; exact af.elim
          | some env' =>
            rw [show forF T C p b d env st = exs T C b env' st by unfold forF; rw [eb]] at af
            refine ⟨u, env, st, g, d, env', si3, yr, hu, eb, fun σ2 _ _ si4 => ⟨env', st, g, si4, ?_⟩⟩
            revert af
            cases exs T C b env' st with
            | ok c st' => cases c with
              | nx env'' => exact fun af σ' g' H' l si' => ⟨env'', st', g', si', le.trans l, AftS.up af l⟩
              | rt d => exact fun af => af
            | exc c fs st' => exact fun af => af
            | bad => exact fun af => af
theorem cs_whl {c : E} {ec : Expr} {b : Ss} {body : List Stmt} (hp : PassesOwn (model X.prog X.w) X.A X.env X.xe) (hc : PT X ec (tMB W g0 H0 Wx (ev T C c))) (hb : PSs X body (tS W g0 H0 Wx (exs T C b))) : PS X (.While ec body [] pos) (tS W g0 H0 Wx (ex T C (.whl c b))) :=
  (ps_while hp hc hb).imp' fun D σ H ⟨env, st, g, si, af⟩ => by
    simp only [ex] at af
    refine ⟨fun m σ H => ∃ env st g, SI W g0 H0 env st g σ H ∧ AftS W g0 H0 Wx g (loopW (ev T C c) (exs T C b) m env st) D, ⟨CF.WF, env, st, g, si, af⟩, ?_⟩
    rintro m σ H ⟨env, st, g, si, af⟩
    cases m with
    | zero => exact af.elim
    | succ m =>
      unfold loopW at af
      refine ⟨env, st, g, si, af.bind.imp fun k st1 g1 H1 l1 si1 af1 => ?_⟩
      cases k with
      | false => exact AftS.nx af1 si1
      | true =>
        refine ⟨fun σ H => ∃ env st g, SI W g0 H0 env st g σ H ∧ AftS W g0 H0 Wx g (loopW (ev T C c) (exs T C b) m env st) D, fun σ' H' h => ⟨m, Nat.lt_succ_self m, h⟩, env, st1, g1, si1, ?_⟩
        rw [if_pos rfl] at af1
        revert af1
        cases exs T C b env st1 with
        | ok c st' => cases c with
          | nx env'' => exact fun af σ' g' H' l si' => ⟨env'', st', g', si', AftS.up af l⟩
          | rt d => exact fun af => af
        | exc c fs st' => exact fun af => af
        | bad => exact fun af => af
end
end CF
/-! CFPut -/
/-! x[i] = e, x[i] += e, x.m(..). -/
namespace CF
open PySem PySem.Spec L2
section
variable {X : Cx} {W : Wld} {n : Nat} {g0 : Gh} {H0 : Hp} {Wx : WX} {env : Env} {σ σ' : St} {st : Sto} {g g' : Gh} {H : Hp} {C : CallF} {pos tpos : Pos} {i : Nat} {x : Str} {e o k : E} {ee eo ek : Expr} {a : Addr} {l : List D} {kv : List (D × D)} {d dk dy : D} {v y : V}
/-- what is put at an item: the object as it stands, as it is left -/
def tPutD (W : Wld) (g0 : Gh) (H0 : Hp) : TSet := fun ov iv v H Q => ∃ env σ st g a d dk dy d', SI W g0 H0 env st g σ H ∧ ov = .ref a ∧ g.fz a = none ∧ OwR W H g a d ∧ RV g iv dk ∧ RV g v dy ∧ ownSet d dk dy = some d' ∧ ∀ u, OwR W (upd H a u) g a d' → Q (upd H a u)
theorem ix_ixN {n : Nat} {k : Int} {j : Nat} (h : ix n k = some j) : ixN n k = some j := by
  unfold ix at h
  unfold ixN
  split at h
  · rename_i h0
    split at h <;> cases h
    rename_i h1
    rw [if_pos h0, if_pos (by omega)]
  · rename_i h0
    split at h <;> cases h
    rename_i h1
    rw [if_neg h0, if_pos (by omega)]
theorem pairedSet {α β : Type} {F : α → β → Prop} : ∀ {a : List α} {b : List β}, Paired F a b → ∀ {i : Nat} {x : α} {y : β}, F x y → Paired F (a.set i x) (b.set i y)
  | _, _, .nil, _, _, _, _ => .nil
  | _, _, .cons h t, 0, _, _, r => .cons r t
  | _, _, .cons h t, i + 1, _, _, r => .cons h (pairedSet t r)
theorem put_set (xw : XW X W) : PSet X (tPutD W g0 H0) := by
  intro pins s σ' H o i v ov iv u Q I ro ri rv ⟨env, σ, st, g, a, d, dk, dy, d', si, ea, nf, ow, rk, ry, hs, q⟩
  subst ea
  cases (show ov = Value.ref a from ro)
  cases d with
  | dct l =>
    simp only [ownSet] at hs
    split at hs <;> cases hs
    rename_i hc
    obtain ⟨uo, h1, dd⟩ := ow
    have df := df_of xw.P xw.w xw.K xw.ok si.hs I (.of h1) dd hc.1 rk
    exact dct_set (l := l) xw.P xw.w (by have := xw.room; omega) I df h1 hc.2 ri rk rv ry fun u' s' I' dd' => ⟨_, I', q u' ⟨u', upd_same, dd'⟩⟩
  | lst l =>
    simp only [ownSet] at hs
    split at hs
    · rename_i z
      obtain ⟨j, hj, e⟩ := Option.map_eq_some_iff.mp hs
      subst e
      cases rk.int_inv
      obtain ⟨vs, h1, h2⟩ := ow
      refine set_list pins s σ' H (.ref a) _ v (.ref a) iv u Q I rfl ri rv ⟨a, vs, z, j, rfl, rfl, h1, by rw [pairedLen h2]; exact ix_ixN hj, q _ ⟨_, upd_same, ?_⟩⟩
      exact pairedSet h2 ry
    · cases hs
  | _ => cases hs
theorem ps_put {to ti tv : TE} {t : TSet} (hv : PE X ee tv) (ho : PE X eo to) (hi : PE X ek ti) (ht : PSet X t) (hs : swapsWith ee (some (.Subscript eo ek tpos)) pos.line X.env = pure false) :
    PS X (.Assign [.Subscript eo ek tpos] ee pos) (fun D σ H => tv σ H fun v H1 => to σ H1 fun x H2 => ti σ H2 fun y H3 => t x y v H3 fun H4 => D.nx σ H4) :=
  ⟨fun pins s σ H D I h => wpAny_Assign_Subscript (thn (hv.run pins s σ H _ I h) fun r s1 ⟨v, H1, I1, rv, q1⟩ => thn (ho.run pins s1 σ H1 _ I1 q1) fun u s2 ⟨x, H2, I2, rx, q2⟩ => thn (hi.run pins s2 σ H2 _ I2 q2) fun w s3 ⟨y, H3, I3, ry, q3⟩ =>
    thn (ht pins s3 σ H3 x y v u w r _ I3 rx ry rv q3) fun _ s4 ⟨H4, I4, q4⟩ => ⟨σ, H4, I4, q4⟩) hs⟩
/-- a list or dict of the store, as one's own -/
theorem so_own {m : Nat} {x : SO} (si : SI W g0 H0 env st g σ H) (e : st[m]? = some x) (hm : g.mu[m]? = some a) {d : D} (hd : x = .lst (match d with | .lst l => l | _ => []) ∧ (∃ l, d = .lst l) ∨ x = .dct (match d with | .dct l => l | _ => []) ∧ ∃ l, d = .dct l) : g.fz a = none ∧ OwR W H g a d := by
  have sr := si.hs.so m x a e hm
  refine ⟨(si.hs.mz m a hm).resolve_right (fun ⟨l, z⟩ => by
    rw [e] at z
    cases z
    rcases hd with ⟨h, _⟩ | ⟨h, _⟩ <;> cases h), ?_⟩
  rcases hd with ⟨h1, l, h2⟩ | ⟨h1, l, h2⟩
  · subst h2; subst h1; exact sr
  · subst h2; subst h1; exact sr
theorem cs_seti (xw : XW X W) (he : PE X ee (tM W g0 H0 Wx (ev W.T C e))) (ho : PE X eo (tM W g0 H0 Wx (ev W.T C o))) (hk : PE X ek (tM W g0 H0 Wx (ev W.T C k))) (hs : swapsWith ee (some (.Subscript eo ek tpos)) pos.line X.env = pure false) :
    PS X (.Assign [.Subscript eo ek tpos] ee pos) (tS W g0 H0 Wx (ex W.T C (.seti o k e))) :=
  (ps_put he ho hk (put_set (g0 := g0) (H0 := H0) xw) hs).imp' fun D σ H ⟨env, st, g, si, af⟩ => by
    simp only [ex] at af
    refine ⟨env, st, g, si, af.bind.imp fun d1 st1 g1 H1 l1 si1 af1 v rv => ⟨env, st1, g1, si1, af1.bind.imp fun d2 st2 g2 H2 l2 si2 af2 x rx => ⟨env, st2, g2, si2, af2.bind.imp fun d3 st3 g3 H3 l3 si3 af3 y ry => ?_⟩⟩⟩
    unfold setI at af3
    split at af3
    · rename_i m
      obtain ⟨a, ea, hm⟩ := (rx.mono l3).ref_inv
      have ma := List.mem_iff_getElem?.mpr ⟨m, hm⟩
      split at af3
      · rename_i l hl
        obtain ⟨nf, ow⟩ := so_own (d := .lst l) si3 hl hm (.inl ⟨rfl, l, rfl⟩)
        split at af3
        · rename_i z
          cases hj : ix l.length z with
          | none => rw [hj] at af3; exact af3.elim
          | some j =>
            rw [hj] at af3
            refine ⟨env, σ, st3, g3, a, .lst l, _, d1, .lst (l.set j d1), si3, ea, nf, ow, ry, (rv.mono l2).mono l3, by simp [ownSet, hj], fun u hu => ?_⟩
            exact AftS.nx af3 (si3.next (si3.hs.put hm (fun l' z => by rw [hl] at z; cases z) (x := .lst (l.set j d1)) hu) (Frm.put ma))
        · exact af3.elim
      · rename_i l hl
        obtain ⟨nf, ow⟩ := so_own (d := .dct l) si3 hl hm (.inr ⟨rfl, l, rfl⟩)
        split at af3
        · rename_i hc
          refine ⟨env, σ, st3, g3, a, .dct l, d3, d1, .dct (putD d3 d1 l), si3, ea, nf, ow, ry, (rv.mono l2).mono l3, by simp [ownSet, hc], fun u hu => ?_⟩
          exact AftS.nx af3 (si3.next (si3.hs.put hm (fun l' z => by rw [hl] at z; cases z) (x := .dct (putD d3 d1 l)) hu) (Frm.put ma))
        · exact af3.elim
      · exact af3.elim
    · exact af3.elim
theorem own_at (si : SI W g0 H0 env st g σ H) (e : env[i]? = some (.ow d)) : ∃ a, σ[i]? = some (some (.ref a)) ∧ g.fz a = none ∧ OwR W H g a d := by
  have hl : i < σ.length := by rw [← si.er.len]; exact (List.getElem?_eq_some_iff.mp e).1
  obtain ⟨a, ea, n1, n2, n3, r⟩ := si.er.sl i _ _ e (List.getElem?_eq_getElem hl)
  exact ⟨a, by rw [List.getElem?_eq_getElem hl, ea], n1, r⟩
theorem cs_setiO (xw : XW X W) {p : Pos} (hN : X.N[i]? = some x) (hv : Vis X.env.scope x) (hd : (x == ("__debug__" : Str)) = false) (hcd : (x == ("__classdict__" : Str)) = false) (he : PE X ee (tM W g0 H0 Wx (ev W.T C e))) (hk : PE X ek (tM W g0 H0 Wx (ev W.T C k))) (hs : swapsWith ee (some (.Subscript (.Name x p) ek tpos)) pos.line X.env = pure false) :
    PS X (.Assign [.Subscript (.Name x p) ek tpos] ee pos) (tS W g0 H0 Wx (ex W.T C (.setiO i k e))) :=
  (ps_put he (pe_var hN hv hd hcd) hk (put_set (g0 := g0) (H0 := H0) xw) hs).imp' fun D σ H ⟨env, st, g, si, af⟩ => by
    simp only [ex] at af
    split at af
    · rename_i d e1
      obtain ⟨a, ea, nf, ow⟩ := own_at si e1
      refine ⟨env, st, g, si, af.bind.imp fun d1 st1 g1 H1 l1 si1 af1 v rv => ⟨.ref a, ea, env, st1, g1, si1, af1.bind.imp fun d2 st2 g2 H2 l2 si2 af2 y ry => ?_⟩⟩
      cases e2 : ownSet d d2 d1 with
      | none => rw [e2] at af2; exact af2.elim
      | some d' =>
        rw [e2] at af2
        obtain ⟨n1, _, _, ow2⟩ := si2.ownAt e1 ea
        exact ⟨env, σ, st2, g2, a, d, d2, d1, d', si2, rfl, n1, ow2, ry, rv.mono l2, e2, fun u hu => AftS.nx af2 (si2.ownPut e1 ea hu)⟩
    · exact af.elim
/-- d[k] of a name's own dict -/
def tGetD (W : Wld) (g0 : Gh) (H0 : Hp) : V → V → Hp → VK → Prop := fun ov iv H Q => ∃ env σ st g a l dk d, SI W g0 H0 env st g σ H ∧ ov = .ref a ∧ OwR W H g a (.dct l) ∧ RV g iv dk ∧ keyOk l dk = true ∧ findK dk l = some d ∧ ∀ v, RV g v d → Q v H
theorem get_own (xw : XW X W) : PGet X (tGetD W g0 H0) := by
  intro pins s σ' H o i ov iv Q I ro ri ⟨env, σ, st, g, a, l, dk, d, si, ea, ow, rk, hk, hf, q⟩
  subst ea
  cases (show ov = Value.ref a from ro)
  obtain ⟨uo, h1, dd⟩ := ow
  have df := df_of xw.P xw.w xw.K xw.ok si.hs I (.of h1) dd hk rk
  exact dct_get (l := l) (by have := xw.room; omega) I df (.of h1) ri hf fun x w' s' I' rx rd => ⟨x, H, I', rx, q x rd⟩
theorem cs_augiO (xw : XW X W) {p : Pos} (hN : X.N[i]? = some x) (hv : Vis X.env.scope x) (hd : (x == ("__debug__" : Str)) = false) (hcd : (x == ("__classdict__" : Str)) = false) (he : PE X ee (tM W g0 H0 Wx (ev W.T C e))) (hk : PE X ek (tM W g0 H0 Wx (ev W.T C k)))
    (ha : ∀ ov iv new, augStore ek ov iv new = (do holding [new, ov, iv] (setItem ov iv new); release [new, ov, iv] []; pure .next)) :
    PS X (.AugAssign (.Subscript (.Name x p) ek tpos) .Add ee pos) (tS W g0 H0 Wx (ex W.T C (.augiO i k e))) :=
  (ps_augS (pe_var hN hv hd hcd) hk (get_own (g0 := g0) (H0 := H0) xw) he ip_add (put_set (g0 := g0) (H0 := H0) xw) ha).imp' fun D σ H ⟨env, st, g, si, af⟩ => by
    simp only [ex] at af
    split at af
    · rename_i d e1
      obtain ⟨a, ea, nf, ow⟩ := own_at si e1
      refine ⟨.ref a, ea, env, st, g, si, af.bind.imp fun d1 st1 g1 H1 l1 si1 af1 y ry => ?_⟩
      split at af1
      · rename_i hc
        split at af1
        · rename_i dv hf
          obtain ⟨_, _, _, ow1⟩ := si1.ownAt e1 ea
          refine ⟨env, σ, st1, g1, a, d, d1, dv, si1, rfl, ow1, ry, hc, hf, fun v rv => ⟨env, st1, g1, si1, af1.bind.imp fun d2 st2 g2 H2 l2 si2 af2 z rz => ?_⟩⟩
          have rv := rv.mono l2
          unfold addD at af2
          split at af2
          · cases rv.int_inv; cases rz.int_inv
            refine ⟨_, _, rfl, rfl, ?_⟩
            simp only [R.of, R.bind] at af2
            split at af2
            · rename_i d' hs
              obtain ⟨n1, _, _, ow2⟩ := si2.ownAt e1 ea
              exact ⟨env, σ, st2, g2, a, .dct d, d1, .int _, d', si2, rfl, n1, ow2, ry.mono l2, rfl, hs, fun u hu => AftS.nx af2 (si2.ownPut e1 ea hu)⟩
            · exact af2.elim
          · exact af2.elim
        · exact af1.elim
      · exact af1.elim
    · exact af.elim
theorem ownKind_inv {m : Mu} {d : D} (h : ownKind m d = true) : (∃ l, d = .lst l ∧ isLm m = true) ∨ ∃ l, d = .dct l ∧ isLm m = false := by
  cases d with
  | lst l => exact .inl ⟨l, rfl, h⟩
  | dct l => exact .inr ⟨l, rfl, by simpa [ownKind] using h⟩
  | _ => cases h
theorem cs_mutO (xw : XW X W) {es : As} {e1 : Expr} {es' : List Expr} {apos cpos p : Pos} (hN : X.N[i]? = some x) (hv : Vis X.env.scope x) (hd : (x == ("__debug__" : Str)) = false) (hcd : (x == ("__classdict__" : Str)) = false) (m : Mu) (mc : MC X (.Name x p) (muN m) apos e1 es' cpos)
    (ha : PA X (e1 :: es') (tMA W g0 H0 Wx (evs W.T (callN W.T n) es))) (hs : swapsWith (.Call (.Attribute (.Name x p) (muN m) apos) (e1 :: es') [] cpos) none pos.line X.env = pure false) :
    PS X (.Expr (.Call (.Attribute (.Name x p) (muN m) apos) (e1 :: es') [] cpos) pos) (tS W g0 H0 Wx (ex W.T (callN W.T n) (.mutO i m es))) :=
  (ps_expr (cf_own (W := W) (g0 := g0) (H0 := H0) (Wx := Wx) xw hN hv hd hcd m mc ha) hs).imp' fun D σ H ⟨env, st, g, si, af⟩ => by
    simp only [ex] at af
    split at af
    · rename_i d e1
      split at af
      · rename_i hk
        refine ⟨env, st, g, si, ⟨d, e1, ownKind_inv hk⟩, (AftS.bind (r := evs W.T (callN W.T n) es env st) af).imp fun ds st1 g1 H1 l1 si1 af1 => ?_⟩
        cases hst : ownStep m d ds with
        | none => rw [hst] at af1; exact af1.elim
        | some d' =>
          rw [hst] at af1
          exact ⟨d, d', e1, hst, fun H' v si' => AftS.nx af1 si'⟩
      · exact af.elim
    · exact af.elim
end
end CF
/-! CFXt -/
/-! try with clauses of which some keep the exception's name. -/
namespace CF
open PySem PySem.Spec PyProof.Rows L2
/-- the exception at a has come to the running frame's clauses -/
structure Got (X : Cx) (pins : List (Addr × Obj)) (a : Addr) (cls : Value) (d : Option Addr) (σ : L2.St) (H : Hp) (s : Shared) : Prop where
  na : H a = none
  st : ∃ (B : Heap) (sI : Shared), Inv X pins σ H sI ∧ (∀ b o, sI.heap.get? b = some o → b ∉ frs X.stack → B.get? b = some o) ∧ sI.heap.UpToSlots s.heap ∧ HandSPX.FlyingZ B X.stack a (L2N.Zn cls d) s.heap ∧ s.os = sI.os ∧ AllBare s.gens
/-- behind the clause its name is gone -/
def tNmd (i : Nat) (ts : Addr → Value → Option Addr → TS) : Addr → Value → Option Addr → TS := fun a cls d D σ H =>
  ts a cls d { nx := fun σ' H' => D.nx (σ'.set i none) H', rt := D.rt, bk := fun σ' H' => D.bk (σ'.set i none) H', ct := fun σ' H' => D.ct (σ'.set i none) H' } (σ.set i (some (.ref a))) H
/-- one clause, with or without a name -/
inductive HdX (X : Cx) : ExceptHandler → Value → (Addr → Value → Option Addr → TS) → Prop
  | pl {x : Str} {c : Value} {ts : Addr → Value → Option Addr → TS} {b₀ : Stmt} {suite : List Stmt} {np pos' : Pos} (hc : Names X x c)
      (hsu : ∀ (a : Addr) (oe : Obj) (cls : Value) (d : Option Addr) (pn : List (Addr × Obj)), L2N.Zn cls d oe → (∃ vs, oe.data = .fields vs) → PSs (X.suite a ((a, oe) :: pn)) (b₀ :: suite) (ts a cls d)) : HdX X (.ExceptHandler (some (.Name x np)) none (b₀ :: suite) pos') c ts
  | nm {x n : Str} {i : Nat} {c : Value} {ts : Addr → Value → Option Addr → TS} {b₀ : Stmt} {suite : List Stmt} {np pos' : Pos} (hc : Names X x c) (hi : X.N[i]? = some n) (hl : X.env.kindOf n = some .local)
      (hsu : ∀ (a : Addr) (oe : Obj) (cls : Value) (d : Option Addr) (pn : List (Addr × Obj)), L2N.Zn cls d oe → (∃ vs, oe.data = .fields vs) → PSs (X.suite a ((a, oe) :: pn)) (b₀ :: suite) (ts a cls d)) : HdX X (.ExceptHandler (some (.Name x np)) (some n) (b₀ :: suite) pos') c (tNmd i ts)
inductive HdsX (X : Cx) : List ExceptHandler → List (Value × (Addr → Value → Option Addr → TS)) → Prop
  | nil : HdsX X [] []
  | cons {h : ExceptHandler} {c : Value} {ts : Addr → Value → Option Addr → TS} {hds : List ExceptHandler} {l : List (Value × (Addr → Value → Option Addr → TS))} (k : HdX X h c ts) (r : HdsX X hds l) : HdsX X (h :: hds) ((c, ts) :: l)
section
variable {X : Cx} {pins : List (Addr × Obj)} {a : Addr} {cls : Value} {d : Option Addr} {σ : L2.St} {H : Hp} {s : Shared}
theorem Got.inv (G : Got X pins a cls d σ H s) : Inv X pins σ H s := by
  obtain ⟨na, B, sI, I, nb, up, fl, os, ag⟩ := G
  exact I.landed nb fl.1 up os ag
/-- its object stands apart from the frames -/
theorem Got.obj (G : Got X pins a cls d σ H s) (hs : X.stack = X.env :: X.outer) (hf : X.env.frame = some X.env.locals) : ∃ oe vs, s.heap.get? a = some oe ∧ L2N.Zn cls d oe ∧ oe.data = .fields vs ∧ a ≠ X.env.locals ∧ a ∉ X.fs := by
  obtain ⟨na, B, sI, I, nb, up, fl, os, ag⟩ := G
  have ff : s.heap.FunFrames B X.stack := fl.2.2.1
  obtain ⟨oe, vs, he, hz, hd⟩ := fl.there
  have nf : a ∉ frs X.stack := fun hm => by
    obtain ⟨_, o, e, no⟩ := ff.mem hm
    exact no _ ((congrArg Obj.data (Option.some.inj (e.symm.trans he))).trans hd)
  rw [hs] at nf
  refine ⟨oe, vs, he, hz, hd, fun z => nf (List.mem_filterMap.mpr ⟨X.env, List.mem_cons_self, z ▸ hf⟩), fun hm => nf ?_⟩
  obtain ⟨e, he, q⟩ := List.mem_filterMap.mp hm
  exact List.mem_filterMap.mpr ⟨e, List.mem_cons_of_mem _ he, q⟩
theorem Got.again {M : Model} {A : Around} {E : Value → Shared → Prop} {Q : Unit → Shared → Prop} (G : Got X pins a cls d σ H s) (q : ∀ s', Got X pins a cls d σ H s' → Q () s') : wpAny M A (setFlight (.ref a) none) Q E s := by
  obtain ⟨na, B, sI, I, nb, up, fl, os, ag⟩ := G
  exact HandSPX.lands_againZ fl fun h' fl' up' => q _ ⟨na, B, sI, I, nb, up.trans up', fl', os, ag⟩
/-- no clause is left: it goes on upwards -/
theorem Got.pass {W : WX} {Q : Flow → Shared → Prop} (G : Got X pins a cls d σ H s) (hf : X.env.frame = some X.env.locals) (tk : L2N.Takes X W) (w : W cls d σ H) : wpAny (model X.prog X.w) X.A (handleBy (.ref a) X.env []) Q X.xe s := by
  obtain ⟨na, B, sI, I, nb, up, fl, os, ag⟩ := G
  have thr : wpAny (model X.prog X.w) X.A (setFlight (.ref a) X.env.frame) (fun _ s' => wpAny (model X.prog X.w) X.A (throw (.ref a) : Sem Flow) Q X.xe s') X.xe s :=
    hf.symm ▸ HandSPX.setFlight_upZ fl fun h' hh up' => wpAny_throw (tk _ _ ⟨a, B, sI, pins, σ, H, cls, d, rfl, I, nb, up.trans up', .inr (.inr hh), na, os, ag, w⟩)
  obtain ⟨_, _, _, oe, vs, T, oT, ts', he, hz, hd, h1, _⟩ := fl
  refine wpAny_handleBy_nil ?_
  unfold PySem.passOn
  refine wpAny_bind (wpAny_field he hd h1 ?_)
  have nn : ¬ ((Value.ref T == Value.none) = true) := by simp
  rw [if_neg nn]
  first
    | exact wpAny_bind (wpAny_pure (wpAny_bind thr))
    | exact wpAny_bind thr
theorem Got.inSuite (G : Got X pins a cls d σ H s) (hs : X.stack = X.env :: X.outer) (hf : X.env.frame = some X.env.locals) : ∃ oe, s.heap.get? a = some oe ∧ L2N.Zn cls d oe ∧ (∃ vs, oe.data = .fields vs) ∧ Inv (X.suite a ((a, oe) :: (X.pn ++ pins))) [] σ H s := by
  obtain ⟨oe, vs, he, hz, hd, n1, n2⟩ := G.obj hs hf
  exact ⟨oe, he, hz, ⟨vs, hd⟩, G.inv.suite he hd G.na n1 n2⟩
/-- the clause's class is named -/
theorem Got.named {x : Str} {c : Value} {np : Pos} {Q : Value → Shared → Prop} {E : Value → Shared → Prop} (G : Got X pins a cls d σ H s) (hs : X.stack = X.env :: X.outer) (hf : X.env.frame = some X.env.locals) (hc : Names X x c) (q : Q c s) :
    wpAny (model X.prog X.w) (X.A.mark (some (.ref a))) (eval (.Name x np) X.env) Q E s := by
  obtain ⟨oe, _, _, _, S⟩ := G.inSuite hs hf
  obtain ⟨hg, hdb, hm⟩ := hc
  rcases hm with hm | ⟨hm, hv, hn⟩
  · exact ld_glob (X := X.suite a ((a, oe) :: (X.pn ++ pins))) S hg hm q hdb
  · exact ld_blt (X := X.suite a ((a, oe) :: (X.pn ++ pins))) S hg hm hv q hn hdb
theorem Got.typ (G : Got X pins a cls d σ H s) (hs : X.stack = X.env :: X.outer) (hf : X.env.frame = some X.env.locals) : PySem.W.Looks (model X.prog X.w) s.heap (typeOf (.ref a)) cls := by
  obtain ⟨oe, vs, he, hz, hd, _, _⟩ := G.obj hs hf
  exact fun A Q E s k q => wpAny_typeOf_ref (k _ _ he) (hz.1.symm ▸ q)
/-- one clause -/
theorem Got.clause {h : ExceptHandler} {r : List ExceptHandler} {c : Value} {ts : Addr → Value → Option Addr → TS} {b : Bool} {D : Ends} (G : Got X pins a cls d σ H s) (hs : X.stack = X.env :: X.outer) (hf : X.env.frame = some X.env.locals) (hN : X.N.Nodup) (k : HdX X h c ts)
    (hb : PySem.W.exmOne X.K cls c = some b) (hy : b = true → ts a cls d D σ H) (hn : b = false → wpAny (model X.prog X.w) X.A (handleBy (.ref a) X.env r) (SP X pins D) X.xe s) :
    wpAny (model X.prog X.w) X.A (handleBy (.ref a) X.env (h :: r)) (SP X pins D) X.xe s := by
  have ok := G.inv.ok
  have LM := PySem.W.exm_one (M := model X.prog X.w) G.inv.kIn (G.typ hs hf) hb
  cases k with
  | @pl x _ _ b₀ suite np pos' hc hsu =>
    refine wpAny_handleBy_cons (codeAny_handlers_test (G.named hs hf hc (LM.here ?_))) (by intro q; cases q)
    cases b with
    | false => exact hn rfl
    | true =>
      refine codeAny_handlers_suite (G.again fun s' G' => ?_)
      obtain ⟨oe, he, hz, hd, S⟩ := G'.inSuite hs hf
      refine wpAny_mono ((hsu a oe cls d (X.pn ++ pins) hz hd).run [] _ _ H D S (hy rfl)) (fun f s6 hsp => ?_) fun _ _ z => z.elim
      cases f with
      | ret u =>
        obtain ⟨v6, σ6, H6, S6, q6⟩ := hsp
        exact ⟨v6, σ6, H6, S6.unsuite ok, q6⟩
      | _ =>
        obtain ⟨σ6, H6, S6, q6⟩ := hsp
        exact ⟨σ6, H6, S6.unsuite ok, q6⟩
  | @nm x n i _ ts' b₀ suite np pos' hc hi hl hsu =>
    refine wpAny_handleBy_cons (codeAny_handlers_test (G.named hs hf hc (LM.here ?_))) (by intro q; cases q)
    cases b with
    | false => exact hn rfl
    | true =>
      refine codeAny_handlers_suite_as (G.again fun s' G' => ?_)
      obtain ⟨oe, he, hz, hd, S⟩ := G'.inSuite hs hf
      have loc : Loc X.env.scope n := .inl hl
      refine store_ok (X := X.suite a ((a, oe) :: (X.pn ++ pins))) (v := .ref a) S hN hi loc rfl (fun s5 S5 => ?_) (.inr hl)
      refine wpAny_mono ((hsu a oe cls d (X.pn ++ pins) hz hd).run [] s5 _ H _ S5 (hy rfl)) (fun f s6 hsp => ?_) fun _ _ z => z.elim
      cases f with
      | ret u =>
        obtain ⟨v6, σ6, H6, S6, r6, q6⟩ := hsp
        exact gone_ok (S6.unsuite ok) hN hi hl fun s7 J => ⟨v6, _, H6, J, r6, q6⟩
      | _ =>
        obtain ⟨σ6, H6, S6, q6⟩ := hsp
        exact gone_ok (S6.unsuite ok) hN hi hl fun s7 J => ⟨_, H6, J, q6⟩
theorem Got.clauses {W : WX} {D : Ends} {hds : List ExceptHandler} {l : List (Value × (Addr → Value → Option Addr → TS))} (G : Got X pins a cls d σ H s) (hs : X.stack = X.env :: X.outer) (hf : X.env.frame = some X.env.locals) (hN : X.N.Nodup) (tk : L2N.Takes X W) (k : HdsX X hds l)
    (w : wMany X.K W D l cls d σ H) : wpAny (model X.prog X.w) X.A (handleBy (.ref a) X.env hds) (SP X pins D) X.xe s := by
  induction k with
  | nil => exact G.pass hf tk w
  | cons k r ih =>
    obtain ⟨b, hb, hy, hn⟩ := w
    exact G.clause hs hf hN k hb (fun e => hy e a G.na) fun e => ih (hn e)
end
section
variable {X : Cx} {body : List Stmt} {h₀ : ExceptHandler} {hds : List ExceptHandler} {l : List (Value × (Addr → Value → Option Addr → TS))} {pos : Pos} {tb : WX → TS} {Wout : WX}
/-- try: the body; then the clauses -/
theorem ps_try_mix (hs : X.stack = X.env :: X.outer) (hf : X.env.frame = some X.env.locals) (hN : X.N.Nodup) (tk : L2N.Takes X Wout)
    (hb : ∀ (W : WX) (pn : List (Addr × Obj)) (xe : Value → Shared → Prop), L2N.Takes (X.tr pn xe) W → PassesOwn (model X.prog X.w) X.A X.env xe → PSs (X.tr pn xe) body (tb W)) (hh : HdsX X (h₀ :: hds) l) :
    PS X (.Try body (h₀ :: hds) [] [] pos) (fun D σ H => tb (wMany X.K Wout D l) D σ H) := by
  refine ⟨fun pins s σ H D I h => ?_⟩
  have ok := I.ok
  have fr : X.A.frames = some (X.env :: X.outer) := hs ▸ ok.frames
  refine wpAny_Try_except (wpAny_mono ((hb (wMany X.K Wout D l) (X.pn ++ pins) _ (fun u s' xx => ?_) PassesOwn.looking).run [] s σ H D (I.toTry _) h) (fun f s1 hsp => ?_) fun e s1 he => he)
  · obtain ⟨a, B, sI, pins', σ', H', cls, d, rfl, J', nb, up, sky, na, os, ag, w⟩ := xx
    have J : Inv X pins σ' H' sI := J'.ofTry ok
    have sky' : Sky B (X.env :: X.outer) a (L2N.Zn cls d) X.env.locals s'.heap := hs ▸ sky
    show wpAny (model X.prog X.w) X.A (noteFrame (.ref a) X.env) _ _ _
    refine L2N.Sky.land L2N.Zn.steady fr hf sky' fun h3 fl up3 => ?_
    exact Got.clauses (Got.mk na ⟨B, sI, J, nb, up.trans up3, hs.symm ▸ fl, os, ag⟩) hs hf hN tk hh w
  · cases f with
    | ret u =>
      obtain ⟨v, σ', H', J', q⟩ := hsp
      exact ⟨v, σ', H', J'.ofTry ok, q⟩
    | next =>
      obtain ⟨σ', H', J', q⟩ := hsp
      exact wpAny_execs_nil ⟨σ', H', J'.ofTry ok, q⟩
    | _ =>
      obtain ⟨σ', H', J', q⟩ := hsp
      exact ⟨σ', H', J'.ofTry ok, q⟩
end
end CF
/-! CFXn -/
/-! An own exception is made where nothing is handled: it has no context. -/
namespace CF
open PySem PySem.Spec PyProof.Rows L2
section
variable {X : Cx} {pins : List (Addr × Obj)} {σ : L2.St} {H : Hp} {hp : Heap} {gs : Array GenState} {dr : Drawn} {tk : Nat} {os : OsState} {C : Addr}
/-- the heap with an exception's tuple and object -/
abbrev mkHp (hp : Heap) (us : List Value) (C : Addr) : Heap := (hp.push (PySem.W.kdv_tup us)).push (PySem.HandSPX.excO C hp.objs.size)
theorem mk_keep {us : List Value} : ∀ b o, hp.get? b = some o → (mkHp hp us C).get? b = some o := fun _ _ h => Heap.get?_push_of_some _ (Heap.get?_push_of_some _ h)
theorem mk_inv (I : Inv X pins σ H ⟨hp, gs, dr, tk, os⟩) (us : List Value) : Inv X pins σ (upd H (hp.objs.size + 1) (exo (hp.objs.size + 1) C none)) ⟨mkHp hp us C, gs, dr, tk, os⟩ := by
  have there : (mkHp hp us C).get? (hp.objs.size + 1) = some (PySem.HandSPX.excO C hp.objs.size) := by heap_get
  exact I.laid (t' := tk) mk_keep (Nat.le_succ _) (exo_ok there)
theorem mk_done {H1 H2 : Hp} {us : List Value} {s2 : Shared} {d : Addr} {fs : List (Str × V)} {Q : XK} (T : OexC X.K C) (I : Inv X pins σ H1 ⟨hp, gs, dr, tk, os⟩) (o2 : s2.os = os) (b2 : AllBare s2.gens)
    (un : Un (frs X.stack) [] (upd H1 (hp.objs.size + 1) (exo (hp.objs.size + 1) C none)) H2 (mkHp hp us C) s2.heap) (hok : HOk X.prog X.w H2 s2.heap)
    (ea : H2 (hp.objs.size + 1) = some (exo (hp.objs.size + 1) C (some d))) (ed : H2 d = some (exd d fs)) (nd : H1 d = none) (q : Q (.ref C) (some d) (upd (del H2 (hp.objs.size + 1)) d (.xd fs))) : L2N.MkP X pins σ Q (.ref (hp.objs.size + 1)) s2 := by
  obtain ⟨h2, g2, d2, t2, os'⟩ := s2
  obtain ⟨t0, G, J, kG, ge, hoe, na⟩ := mk_end0 (d2 := d2) (t2 := t2) I (Nat.le_succ _) mk_keep un hok o2 b2 ea ed nd
  have ctx : PXN.CtxN { cls := .ref C, dict := some d, data := .fields #[.ref t0, .none, .none, .none, .bool false, .none] } := fun vs hv => by
    injection hv with hv
    subst hv
    rfl
  exact ⟨_, _, _, ⟨G, g2, d2, t2, os'⟩, _, .ref C, some d, rfl, J, kG, ge, hoe, ⟨rfl, rfl, ctx⟩, rfl, rfl, na, rfl, b2, raises_own T.exC T.tyC, q⟩
end
theorem pmk_oexN {X : Cx} {Cc : CXT} {x : Str} {e : Expr} {es : List Expr} {ta : TA} {p pos : Pos} {C fI : Addr} {k : Nat} {fd : FuncData} {ps : List Str} {sp : Sp} (T : OexC X.K C) (iC : PySem.W.findIn X.K (.ref C) "__init__" = some (some (.ref fI))) (tI : PySem.W.typeIn X.K (.ref fI) = some (.type "function"))
    (FO : FnOk X.prog X.w X.K X.mg X.base Cc k fI fd ps sp) (hr : Room (k + 1) X.A) (hb : Binds X.K fd ps []) (hx : Passes Cc X (fun _ _ _ => False)) (hg : Gl X x) (hm : X.mg x = some (.ref C)) (ha : PA X (e :: es) ta) (hdb : (x == ("__debug__" : Str)) = false)
    (he : starEach (e :: es) X.env = (false, eval e X.env) :: starEach es X.env) (hpl : (backTo pos (starEach es X.env)).any (·.1) = false) : L2N.PMk X (.Call (.Name x p) (e :: es) [] pos) (tMkO C sp [] ta) := fun pins s σ H Q I h => by
  obtain ⟨nm, q, N, bs, bm, sn, sub, ab, col, dd, k0, k1, k2, k3, k5, hC, hbm⟩ := T.cls
  refine wpAny_Call_Name_kw (ld_glob I hg hm (PySem.W.callWith_K (h₀ := X.base) I.ok.mod.kin T.kC (thn (ha.run pos pins s σ H _ I h) fun us s1 hs1 => ?_) he hpl) hdb)
  obtain ⟨hp, gs, dr, tk, os⟩ := s1
  obtain ⟨vs, H1, I1, rv, hz, hq⟩ := hs1
  refine ⟨I1.kIn, ?_⟩
  have J := mk_inv (C := C) I1 us
  have want := hq (hp.objs.size + 1) (I1.hok.fresh (Nat.le_succ _))
  rw [List.append_nil] at want
  have r2 : Vals (V.ref (hp.objs.size + 1) :: vs) (Value.ref (hp.objs.size + 1) :: us) := .cons rfl rv
  have n2 : (Value.ref (hp.objs.size + 1) :: us).length = ps.length := r2.length.symm.trans (FO.len _ _ _ _ want)
  have b2 := hb _ (Value.ref (hp.objs.size + 1) :: us) J.kIn (by rw [List.append_nil]; exact n2)
  rw [List.append_nil] at b2
  have few : us.length ≤ sizeLine := by
    have := Paired.length rv
    rw [sizeLine_eq]
    omega
  have run := FO.run _ X.stack _ _ ⟨Value.ref (hp.objs.size + 1) :: us, []⟩ _ _ _ (fun _ _ _ => False) (hr.make C us []) (J.env0.make C us []) b2 r2 want
  refine wpAny_call (PySem.HandSPX.call_own F.excBase_ValueError (fun Y => PySem.HandSPX.refsVE_contains Y bm hbm) (I1.kIn _ _ hC) (PySem.W.looks_findIn I1.kIn iC) (fun self => PySem.W.bind_fn I1.kIn self tI) few (codeAny_mono run fun r s2 hr2 => ?_))
  match r, hr2 with
  | .error er, z => exact hx pins σ _ _ er s2 J z
  | .ok (.ret u), ⟨v, H2, o2, b3, un, hok, ru, ev, d, fs, ea, ed, nd, q2⟩ =>
    subst ev
    exact ⟨ru, mk_done T I1 o2 b3 un hok ea ed nd q2⟩
  | .ok .next, z => exact z.elim
  | .ok .brk, z => exact z.elim
  | .ok .cont, z => exact z.elim
end CF
/-! CFTry -/
/-! raise, try. -/
namespace CF
open PySem PySem.Spec L2
section
variable {X : Cx} {W : Wld} {n : Nat} {g0 : Gh} {H0 : Hp} {Wx : WX} {env : Env} {σ : St} {st : Sto} {g : Gh} {H : Hp} {T : Tab} {C : CallF} {pos p p2 : Pos} {c : Nat} {e : E} {ee : Expr}
/-- an exception class, called without arguments -/
theorem mk_exc0 {Ca : Addr} {bmB : List Value} {B newId initId : String} {x : Str} (F : ExcBaseFacts B newId initId bmB) (q : PySem.W.excIn X.K Ca bmB newId = true) (gC : X.mg x = some (.ref Ca)) (kC : PySem.W.keepIn X.K (.ref Ca) = true) (r : Raises X (.ref Ca)) (hg : Gl X x) (hdb : (x == ("__debug__" : Str)) = false) :
    L2N.PMk X (.Call (.Name x p) [] [] pos) (fun _ H Q => Q (.ref Ca) none H) := fun pins s σ H Q I h => by
  refine wpAny_Call_Name_kw (ld_glob I hg gC ?_ hdb)
  refine PySem.W.callWith_K0 I.kIn kC ?_
  obtain ⟨bm, N, nm, qn, bs, hdct, sn, sub, ab, col, dd, k0, k1, k2, k3, k5, mN, hC, hN, hni, T⟩ := exc_obj I.kIn q
  exact wpAny_call_exc_subT F T hC hN hni (fun h' e hm => L2N.mk_of I hm r h (I.hok.gone hm.new)) (Nat.zero_le _)
theorem cs_rais0 (cx : CxOk X W n Wx) (hc : X.calm = true) (hx : W.T.exf c = some []) (hg : Gl X (W.cn c)) (hdb : (W.cn c == ("__debug__" : Str)) = false) : PS X (.Raise (some (.Call (.Name (W.cn c) p) [] [] p2)) none pos) (tS W g0 H0 Wx (ex W.T C (.rais c .nil))) := by
  obtain ⟨Ca, h1, h2, h3, h4, h5⟩ := cx.wok.ex c [] hx
  obtain ⟨B, newId, initId, bmB, F, q⟩ := cx.wok.ex0 c Ca hx h1
  have r : Raises X (.ref Ca) := raises_own (by rw [cx.xw.K]; exact h4) (by rw [cx.xw.K]; exact h5)
  refine (L2N.ps_raise hc cx.tk (mk_exc0 (p := p) (pos := p2) F (by rw [cx.xw.K]; exact q) (by rw [cx.xw.mg]; exact h2) (by rw [cx.xw.K]; exact h3) r hg hdb)).imp' fun D σ H ⟨env, st, g, si, af⟩ => ?_
  simp only [ex, evs, R.bind, hx] at af
  exact af (.ref Ca) none env σ g H (.refl g) si ⟨⟨Ca, h1, rfl⟩, .inl ⟨rfl, rfl⟩⟩
theorem cs_rais1 (cx : CxOk X W n Wx) (hc : X.calm = true) {b : Nat} {es : As} {ea : Expr} {es' : List Expr} (hx : W.T.exf c = some [b]) (hg : Gl X (W.cn c)) (hdb : (W.cn c == ("__debug__" : Str)) = false) (ha : PA X (ea :: es') (tMA W g0 H0 Wx (evs W.T C es)))
    (he : starEach (ea :: es') X.env = (false, eval ea X.env) :: starEach es' X.env) (hpl : (backTo p2 (starEach es' X.env)).any (·.1) = false) : PS X (.Raise (some (.Call (.Name (W.cn c) p) (ea :: es') [] p2)) none pos) (tS W g0 H0 Wx (ex W.T C (.rais c es))) := by
  obtain ⟨Ca, h1, h2, h3, h4, h5⟩ := cx.wok.ex c [b] hx
  obtain ⟨⟨fI, fd, ps, F, hb, iC, tI⟩, T, xf, no⟩ := cx.wok.ex1 c b Ca hx h1
  rw [← cx.xw.K] at hb iC tI T no
  have F1 := F X.base (L2N.CX X.prog X.w) 0
  rw [← cx.xw.K, ← cx.xw.P, ← cx.xw.w, ← cx.xw.mg] at F1
  have px : Passes (L2N.CX X.prog X.w) X (fun _ _ _ => False) := fun pins σ H s e s' I z => by
    obtain ⟨_, _, _, _, _, _, _, _, _, _, _, _, z⟩ := z
    exact z.elim
  have mk := pmk_oexN (p := p) (pos := p2) T iC tI F1 (cx.room.mono (by omega)) hb px hg (by rw [cx.xw.mg]; exact h2) ha hdb he hpl
  refine (L2N.ps_raise hc cx.tk mk).imp' fun D σ H ⟨env, st, g, si, af⟩ => ?_
  simp only [ex] at af
  refine ⟨env, st, g, si, af.bind.imp fun ds st1 g1 H1 l1 si1 af1 vs rvs => ?_⟩
  rw [hx] at af1
  simp only [List.length_cons, List.length_nil] at af1
  split at af1
  · rename_i hl
    match ds, rvs, hl with
    | [d], .cons (a := v) rv .nil, _ =>
      refine ⟨by simp, fun a hn => ⟨a, v, rfl, upd_same, fun dx n1 ne => ⟨rfl, dx, _, upd_same, by rw [upd_ne ne, upd_same], ?_, ?_⟩⟩⟩
      · rwa [upd_ne ne] at n1
      · have n2 : H1 dx = none := by rwa [upd_ne ne] at n1
        have eH : upd (del (upd (upd (upd H1 a (exo a Ca none)) dx (exd dx [(W.an b, v)])) a (exo a Ca (some dx))) a) dx (.xd [(W.an b, v)]) = upd H1 dx (.xd [(W.an b, v)]) := by
          funext x
          by_cases e1 : x = dx
          · rw [e1, upd_same, upd_same]
          · rw [upd_ne e1, upd_ne e1]
            by_cases e2 : x = a
            · rw [e2, del_same, hn]
            · rw [del_ne e2, upd_ne e2, upd_ne e1, upd_ne e2]
        rw [eH]
        exact af1 (.ref Ca) (some dx) env σ g1 _ (.refl g1) (si1.next (si1.hs.lay n2) (Frm.lay n2)) ⟨⟨Ca, h1, rfl⟩, .inr ⟨dx, _, rfl, upd_same, si1.hs.nofz n2, si1.hs.nomu n2, .cons ⟨rfl, rv⟩ .nil⟩⟩
  · exact af1.elim
/-- never come to -/
theorem cs_never {s : Stmt} {es : As} (hx : W.T.exf c = none) (he : ∀ env st, evs W.T C es env st = .bad ∨ ∃ ds st', evs W.T C es env st = .ok ds st') : PS X s (tS W g0 H0 Wx (ex W.T C (.rais c es))) := by
  refine ps_never.imp' fun D σ H ⟨env, st, g, si, af⟩ => ?_
  simp only [ex] at af
  rcases he env st with h | ⟨ds, st', h⟩
  · rw [h] at af; exact af
  · rw [h] at af
    simp only [R.bind, hx] at af
    exact af
/-- the clauses: each stores one constant -/
inductive HsC (X : Cx) (W : Wld) : Hs → List ExceptHandler → Prop where
  | nil : HsC X W .nil []
  | cons {h x : Nat} {d : D} {v : V} {r : Hs} {nm : Str} {np pt pa pos' : Pos} {k : Expr} {hds : List ExceptHandler} (hx : (W.T.exf h).isSome = true) (hg : Gl X (W.cn h)) (hdb : (W.cn h == ("__debug__" : Str)) = false) (hi : X.N[x]? = some nm) (hl : X.env.scope.names.lookup nm = some .local)
      (hv : ∀ g : Gh, g.k0 = W.f0 → RV g v d) (hk : ∀ (a : Addr) (pn : List (Addr × Obj)), PE (X.suite a pn) k (tC v)) (hs : ∀ (a : Addr) (pn : List (Addr × Obj)), swapsWith k (some (.Name nm pt)) pa.line (X.suite a pn).env = pure false) (t : HsC X W r hds) :
      HsC X W (.cons h none x (.cst d) r) (.ExceptHandler (some (.Name (W.cn h) np)) none [.Assign [.Name nm pt] k pa] pos' :: hds)
  | xf {h x i b : Nat} {r : Hs} {nm en : Str} {np pt pa pos' p1 p2 : Pos} {hds : List ExceptHandler} (hx : W.T.exf h = some [b]) (only : ∀ c, (W.T.exf c).isSome = true → W.T.sup c h = true → c = h) (hg : Gl X (W.cn h)) (hdb : (W.cn h == ("__debug__" : Str)) = false) (hi : X.N[x]? = some nm) (hl : X.env.scope.names.lookup nm = some .local)
      (hj : X.N[i]? = some en) (hlj : X.env.scope.names.lookup en = some .local) (d1 : (en == ("__debug__" : Str)) = false) (d2 : (en == ("__classdict__" : Str)) = false) (t : HsC X W r hds) :
      HsC X W (.cons h (some i) x (.exf i b) r) (.ExceptHandler (some (.Name (W.cn h) np)) (some en) [.Assign [.Name nm pt] (.Attribute (.Name en p1) (W.an b) p2) pa] pos' :: hds)
  | hx {h x i j : Nat} {p : HSt} {r : Hs} {en : Str} {np pos' : Pos} {b₀ : Stmt} {suite : List Stmt} {hds : List ExceptHandler} (hx : (W.T.exf h).isSome = true) (hg : Gl X (W.cn h)) (hdb : (W.cn h == ("__debug__" : Str)) = false)
      (hj : X.N[i]? = some en) (hlj : X.env.scope.names.lookup en = some .local) (hp : W.hs j = some p) (hi : p.i = i) (hxx : p.x = x) (hok : p.ok X.N X.env.scope (b₀ :: suite) = true) (t : HsC X W r hds) :
      HsC X W (.cons h (some i) x (.hx j) r) (.ExceptHandler (some (.Name (W.cn h) np)) (some en) (b₀ :: suite) pos' :: hds)
  | xl {h x i b : Nat} {d : D} {v : V} {r : Hs} {nm en : Str} {np pt pa pos' p1 p2 p3 : Pos} {k : Expr} {hds : List ExceptHandler} (hx : W.T.exf h = some [b]) (only : ∀ c, (W.T.exf c).isSome = true → W.T.sup c h = true → c = h) (hg : Gl X (W.cn h)) (hdb : (W.cn h == ("__debug__" : Str)) = false) (hi : X.N[x]? = some nm) (hl : X.env.scope.names.lookup nm = some .local)
      (hj : X.N[i]? = some en) (hlj : X.env.scope.names.lookup en = some .local) (d1 : (en == ("__debug__" : Str)) = false) (d2 : (en == ("__classdict__" : Str)) = false) (hv : ∀ g : Gh, g.k0 = W.f0 → RV g v d) (hk : ∀ (a : Addr) (pn : List (Addr × Obj)), PE (X.suite a pn) k (tC v))
      (hst : ∀ (es : List Expr) (env : PySem.Env), starEach (k :: es) env = (false, eval k env) :: starEach es env) (t : HsC X W r hds) :
      HsC X W (.cons h (some i) x (.fr (.lst (.cons (.cst d) (.cons (.exf i b) .nil)))) r) (.ExceptHandler (some (.Name (W.cn h) np)) (some en) [.Assign [.Name nm pt] (.List [k, .Attribute (.Name en p1) (W.an b) p2] p3) pa] pos' :: hds)
theorem no_ow {env : Env} (h : env.all (fun x => !isOwS x) = true) {i : Nat} {d : D} : env[i]? ≠ some (.ow d) := fun e => by
  have q := List.all_eq_true.mp h _ (List.mem_of_getElem? e)
  cases q
/-- nothing is a name's own: the base may change -/
theorem ER.base0 {W : Wld} {H H1 H2 : Hp} {g : Gh} {env : Env} {σ : St} (n : ∀ (i : Nat) d, env[i]? ≠ some (.ow d)) (er : ER W H g H1 env σ) : ER W H g H2 env σ := by
  refine ⟨er.len, fun i s x he hx => ?_, fun i j d e a he _ _ _ => absurd he (n i d)⟩
  have q := er.sl i s x he hx
  cases s with
  | ow d => exact absurd he (n i d)
  | _ => exact q
/-- what is wanted of the clauses -/
theorem hs_many (wok : WOk W) (xw : XW X W) (hcm : X.calm = true) (hrm : Room (3 * n + 5) X.A) (hN : X.N.Nodup) {hs : Hs} {hds : List ExceptHandler} (h : HsC X W hs hds) : ∃ l, HdsX X hds l ∧ ∀ (D : Ends) {c : Nat} {fs : List (Nat × CF.D)} {env : Env} {σ : St} {st : Sto} {g g' : Gh} {H : Hp} {cls : Value} {dd : Option Addr}, (W.T.exf c).isSome = true → AftS W g0 H0 Wx g (exh W.T C hs c fs env st) D →
    Gh.le g g' → SI W g0 H0 env st g' σ H → ExD W H g' c fs cls dd → wMany X.K Wx D l cls dd σ H := by
  induction h with
  | nil => exact ⟨[], .nil, fun D c fs env σ st g g' H cls dd hc af le si ex => af cls dd env σ g' H le si ex⟩
  | @cons h x d v r nm np pt pa pos' k hds hx hg hdb hi hl hv hk hs t ih =>
    obtain ⟨l, h1, h2⟩ := ih
    obtain ⟨fs0, hfs⟩ := Option.isSome_iff_exists.mp hx
    obtain ⟨Ch, k1, k2, _⟩ := wok.ex h fs0 hfs
    refine ⟨(.ref Ch, fun a cls dd => tAsg (tC v) (gName x)) :: l, .cons (.pl ⟨hg, hdb, .inl (by rw [xw.mg]; exact k2)⟩ (fun a oe cls d pn _ _ => ?_)) h1, fun D c fs env σ st g g' H cls dd hc af le si ex => ?_⟩
    · exact pss_one (ps_set hN hi (.inl hl) (hk a ((a, oe) :: pn)) (hs a ((a, oe) :: pn)) (.inr hl))
    · obtain ⟨⟨Ca, hC, ec⟩, _⟩ := id ex
      refine ⟨W.T.sup c h, by rw [xw.K, ec]; exact wok.exs c h Ca Ch hc hx hC k1, fun hb a ha => ?_, fun hb => ?_⟩
      · simp only [exh, hb, if_true] at af
        split at af
        · simp only [ev, R.bind] at af
          exact (AftS.up af le).nx (si.setPu (hv g' si.hs.f0))
        · exact af.elim
      · rw [show exh W.T C (.cons h none x (.cst d) r) c fs env st = exh W.T C r c fs env st by simp only [exh, hb]; rfl] at af
        exact h2 D hc af le si ex
  | @xf h x i b r nm en np pt pa pos' p1 p2 hds hx only hg hdb hi hl hj hlj d1 d2 t ih =>
    obtain ⟨l, h1, h2⟩ := ih
    obtain ⟨Ch, k1, k2, _⟩ := wok.ex h [b] hx
    have XI := wok.ex1 h b Ch hx k1
    rw [← xw.K] at XI
    refine ⟨(.ref Ch, tNmd i fun a cls dd => tAsg (tXf a cls dd Ch (W.an b) (tVar i)) (gName x)) :: l, .cons (.nm ⟨hg, hdb, .inl (by rw [xw.mg]; exact k2)⟩ hj hlj (fun a oe cls d pn hz hf => ?_)) h1, fun D c fs env σ st g g' H cls dd hc af le si ex => ?_⟩
    · exact pss_one (ps_set hN hi (.inl hl) (pe_xf XI.xf XI.no hz.zc hf (pe_var hj (.inl hlj) d1 d2)) rfl (.inr hl))
    · obtain ⟨⟨Ca, hC, ec⟩, hfs⟩ := id ex
      refine ⟨W.T.sup c h, by rw [xw.K, ec]; exact wok.exs c h Ca Ch hc (by rw [hx]; rfl) hC k1, fun hb a ha => ?_, fun hb => ?_⟩
      · obtain rfl := only c hc hb
        obtain rfl : Ca = Ch := by rw [hC] at k1; exact Option.some.inj k1
        simp only [exh, hb, if_true] at af
        split at af
        · rename_i hlt
          obtain ⟨l1, l2, l3⟩ := hlt
          have li : i < σ.length := by rw [← si.er.len]; exact l1
          simp only [ev, List.getElem?_set_self l1] at af
          cases hv : fieldOf fs b with
          | none => rw [hv] at af; exact af.elim
          | some dv =>
            rw [hv] at af
            simp only [R.of, R.bind] at af
            rcases hfs with ⟨rfl, _⟩ | ⟨dx, vs, ed, hd, _, _, pr⟩
            · cases hv
            · obtain ⟨v, e1, rv⟩ := fs_at wok pr hv
              refine ⟨.ref a, List.getElem?_set_self li, rfl, ec, dx, vs, v, ed, hd, e1, ?_⟩
              show D.nx (((σ.set i (some (.ref a))).set x (some v)).set i none) H
              rw [List.set_comm _ _ (Ne.symm l3), List.set_set]
              exact (AftS.up af le).nx (si.setEmp.setPu rv)
        · exact af.elim
      · rw [show exh W.T C (.cons h (some i) x (.exf i b) r) c fs env st = exh W.T C r c fs env st by simp only [exh, hb]; rfl] at af
        exact h2 D hc af le si ex
  | @hx h x i j p r en np pos' b₀ suite hds hx hg hdb hj hlj hp hi hxx hok t ih =>
    obtain ⟨l, h1, h2⟩ := ih
    obtain ⟨fs0, hfs⟩ := Option.isSome_iff_exists.mp hx
    obtain ⟨Ch, k1, k2, _⟩ := wok.ex h fs0 hfs
    have hand := wok.hx j p hp X.N X.env.scope (b₀ :: suite) hok X n xw hcm rfl hN rfl hrm rfl
    refine ⟨(.ref Ch, tNmd i fun a cls dd => tHx W j p a cls dd) :: l, .cons (.nm ⟨hg, hdb, .inl (by rw [xw.mg]; exact k2)⟩ hj hlj (fun a oe cls d pn hz hf => hand a oe cls d pn hz hf)) h1, fun D c fs env σ st g g' H cls dd hc af le si ex => ?_⟩
    obtain ⟨⟨Ca, hC, ec⟩, _⟩ := id ex
    refine ⟨W.T.sup c h, by rw [xw.K, ec]; exact wok.exs c h Ca Ch hc hx hC k1, fun hb a ha => ?_, fun hb => ?_⟩
    · simp only [exh, hb, if_true] at af
      split at af
      · rename_i hlt
        obtain ⟨l1, l2, l3⟩ := hlt
        have li : i < σ.length := by rw [← si.er.len]; exact l1
        simp only [ev] at af
        split at af
        · rename_i hno
          cases hv : W.T.hx j (env.set i (.ex c fs)) st with
          | none => rw [hv] at af; exact af.elim
          | some v =>
            rw [hv] at af
            simp only [R.of, R.bind] at af
            have si1 := si.setEx (i := i) (y := some (.ref a)) (c := c) (fs := fs)
            have no1 : ∀ (m : Nat) d, (env.set i (.ex c fs))[m]? ≠ some (.ow d) := fun m d => no_ow hno
            refine ⟨env.set i (.ex c fs), st, g', c, fs, v, ⟨si1.hs, .refl g' H, si1.er.base0 no1⟩, by rw [hi]; exact List.getElem?_set_self li, by rw [hi]; exact List.getElem?_set_self l1, ex, ha, hv, fun σ2 g2 H2 l2 si2 => ?_⟩
            rw [hxx] at si2
            have no2 : ∀ (m : Nat) d, ((env.set i (.ex c fs)).set x (.pu v))[m]? ≠ some (.ow d) := fun m d e => by
              rw [List.getElem?_set] at e
              split at e
              · split at e <;> cases e
              · exact no1 m d e
            have si3 : SI W g0 H0 ((env.set i (.ex c fs)).set x (.pu v)) st g2 σ2 H2 := ⟨si2.hs, si.fr.trans si2.fr, si2.er.base0 no2⟩
            have si4 := si3.setEmp (i := i) (y := none)
            rw [List.set_comm _ _ (Ne.symm l3), List.set_set] at si4
            exact (AftS.up af (le.trans l2)).nx si4
        · exact af.elim
      · exact af.elim
    · rw [show exh W.T C (.cons h (some i) x (.hx j) r) c fs env st = exh W.T C r c fs env st by simp only [exh, hb]; rfl] at af
      exact h2 D hc af le si ex
  | @xl h x i b d v r nm en np pt pa pos' p1 p2 p3 k hds hx only hg hdb hi hl hj hlj d1 d2 hv hk hst t ih =>
    obtain ⟨l, h1, h2⟩ := ih
    obtain ⟨Ch, k1, k2, _⟩ := wok.ex h [b] hx
    have XI := wok.ex1 h b Ch hx k1
    rw [← xw.K] at XI
    refine ⟨(.ref Ch, tNmd i fun a cls dd => tAsg (fun σ H Q => tCons (tC v) (tCons (tXf a cls dd Ch (W.an b) (tVar i)) tNil) σ H fun vs H1 => vs.length ≤ sizeLine ∧ ∀ p, H1 p = none → Q (.ref p) (upd H1 p (.lst vs))) (gName x)) :: l,
      .cons (.nm ⟨hg, hdb, .inl (by rw [xw.mg]; exact k2)⟩ hj hlj (fun a oe cls d pn hz hf => ?_)) h1, fun D c fs env σ st g g' H cls dd hc af le si ex => ?_⟩
    · exact pss_one (ps_set hN hi (.inl hl) (pe_lst (pa_cons (hk a ((a, oe) :: pn)) (pa_cons (pe_xf XI.xf XI.no hz.zc hf (pe_var hj (.inl hlj) d1 d2)) pa_nil rfl) (hst _ _))) rfl (.inr hl))
    · obtain ⟨⟨Ca, hC, ec⟩, hfs⟩ := id ex
      refine ⟨W.T.sup c h, by rw [xw.K, ec]; exact wok.exs c h Ca Ch hc (by rw [hx]; rfl) hC k1, fun hb a ha => ?_, fun hb => ?_⟩
      · obtain rfl := only c hc hb
        obtain rfl : Ca = Ch := by rw [hC] at k1; exact Option.some.inj k1
        simp only [exh, hb, if_true] at af
        split at af
        · rename_i hlt
          obtain ⟨l1, l2, l3⟩ := hlt
          have li : i < σ.length := by rw [← si.er.len]; exact l1
          simp only [ev, evF, evs, List.getElem?_set_self l1] at af
          cases hv2 : fieldOf fs b with
          | none => rw [hv2] at af; exact af.elim
          | some dv =>
            rw [hv2] at af
            simp only [R.of, R.bind, List.length_cons, List.length_nil] at af
            rw [if_pos (by decide)] at af
            rcases hfs with ⟨rfl, _⟩ | ⟨dx, vs, ed, hd, _, _, pr⟩
            · cases hv2
            · obtain ⟨w, e1, rv⟩ := fs_at wok pr hv2
              refine ⟨.ref a, List.getElem?_set_self li, rfl, ec, dx, vs, w, ed, hd, e1, by rw [sizeLine_eq]; simp, fun p hp => ?_⟩
              show D.nx (((σ.set i (some (.ref a))).set x (some (.ref p))).set i none) (upd H p (.lst [v, w]))
              rw [List.set_comm _ _ (Ne.symm l3), List.set_set]
              have nz := si.hs.nofz hp
              have rvs : RVs g' [v, w] [d, dv] := .cons (hv g' si.hs.f0) (.cons rv .nil)
              have si2 : SI W g0 H0 env st (g'.addF p (.lst [d, dv])) σ (upd H p (.lst [v, w])) := si.next (si.hs.layF hp ⟨_, upd_same, rvs⟩) (Frm.layF hp nz)
              exact (AftS.up af (le.trans (addF_le nz))).nx (si2.setEmp.setPu addF_is)
        · exact af.elim
      · rw [show exh W.T C (.cons h (some i) x (.fr (.lst (.cons (.cst d) (.cons (.exf i b) .nil)))) r) c fs env st = exh W.T C r c fs env st by simp only [exh, hb]; rfl] at af
        exact h2 D hc af le si ex
/-- try: one expression; clauses that store constants -/
theorem cs_try (cx : CxOk X W n Wx) (hN : X.N.Nodup) (hstk : X.stack = X.env :: X.outer) (hf : X.env.frame = some X.env.locals) {hs : Hs} {h0 : ExceptHandler} {hds : List ExceptHandler} (hh : HsC X W hs (h0 :: hds))
    (he : ∀ (W' : WX) (pn : List (Addr × Obj)) (xe : Value → Shared → Prop), L2N.Takes (X.tr pn xe) W' → PassesOwn (model X.prog X.w) X.A X.env xe → PE (X.tr pn xe) ee (tM W g0 H0 W' (ev W.T C e))) (hsw : swapsWith ee none p.line X.env = pure false) :
    PS X (.Try [.Expr ee p] (h0 :: hds) [] [] pos) (tS W g0 H0 Wx (ex W.T C (.tr e hs))) := by
  obtain ⟨l, h1, h2⟩ := hs_many (Wx := Wx) (g0 := g0) (H0 := H0) (C := C) cx.wok cx.xw cx.calm cx.room hN hh
  refine (ps_try_mix hstk hf hN cx.tk (tb := fun W' => tDrop (tM W g0 H0 W' (ev W.T C e))) (fun W' pn xe tk po => pss_one (ps_expr (X := X.tr pn xe) (he W' pn xe tk po) hsw)) h1).imp' fun D σ H ⟨env, st, g, si, af⟩ => ?_
  simp only [ex] at af
  refine ⟨env, st, g, si, ?_⟩
  revert af
  cases ev W.T C e env st with
  | ok d st' => exact fun af g' H' l si' v rv => AftS.nx (AftS.up (r := .ok (.nx env) st') af l) si'
  | exc c fs st' =>
    intro af cls dd g' H' l si' ex
    have af : AftS W g0 H0 Wx g (if (W.T.exf c).isSome = true then exh W.T C hs c fs env st' else .bad) D := af
    split at af
    · rename_i hx
      exact h2 D hx af l si' ex
    · exact af.elim
  | bad => exact fun af => af
end
end CF
/-! CFComp2 -/
/-! Comprehensions as written. -/
namespace CF
open PySem PySem.Spec L2
/-- in every context of the block -/
def InBlk (X : Cx) (scope : Scope) (P : Cx → Prop) : Prop := ∀ (s : Shared) (H : Hp) (C : Addr) (cl : List (Str × Addr)) (fp : List Addr), P (X.blk s H scope (compEnvC scope cl C X.env) fp)
section
variable {X : Cx} {W : Wld} {n : Nat} {g0 : Gh} {H0 : Hp} {Wx : WX} {T : Tab} {C : CallF} {p q : Pat} {it it2 : I} {c : Oe} {e : E} {tg iter elt tg2 iter2 : Expr} {ifs : List Expr} {scope : Scope} {own : List (Str × Nat)} {pos spos : Pos} {u u2 : Bool}
theorem pex {Y : Cx} {m : Env → Sto → R D} {ee : Expr} (h : ∀ g0 H0, PE Y ee (tM W g0 H0 WF0 m)) : PE Y ee (tMx W m) := ⟨fun pins s σ H Q I ⟨g0, H0, q⟩ => (h g0 H0).run pins s σ H Q I q⟩
theorem pgx {Y : Cx} {p : Pat} {ee : Expr} (h : ∀ g0 H0, PG Y ee (tB W g0 H0 p)) : PG Y ee (tBx W p) := ⟨fun pins s σ H v uv Q I r ⟨g0, H0, q⟩ => (h g0 H0).run pins s σ H v uv Q I r q⟩
theorem pix {Y : Cx} {u : Bool} {m : Env → Sto → R Src} {tg ee : Expr} (h : ∀ g0 H0, PI Y tg ee (tI W g0 H0 WF0 u m)) : PI Y tg ee (tIx W u m) := ⟨fun pins s σ H R I ⟨g0, H0, q⟩ => (h g0 H0).run pins s σ H R I q⟩
/-- the tests of a clause -/
theorem pts_no {Y : Cx} : PTs Y [] (tCx W (evC T C .no)) := ⟨fun pins s σ H Q I ⟨g0, H0, env, st, g, si, af⟩ => pts_nil.run pins s σ H Q I (by
  simp only [evC] at af
  exact af g H (.refl g) si)⟩
theorem pts_so {Y : Cx} {ec : Expr} {a : E} (h : ∀ g0 H0, PT Y ec (tMB W g0 H0 WF0 (ev T C a))) : PTs Y [ec] (tCx W (evC T C (.so a))) := ⟨fun pins s σ H Q I ⟨g0, H0, env, st, g, si, af⟩ => (pts_one (h g0 H0)).run pins s σ H Q I (by
  simp only [evC] at af
  exact ⟨env, st, g, si, af⟩)⟩
/-- what is asked of a comprehension with one clause -/
structure LcOk (X : Cx) (W : Wld) (g0 : Gh) (H0 : Hp) (Wx : WX) (T : Tab) (C : CallF) (p : Pat) (it : I) (c : Oe) (e : E) (tg iter elt : Expr) (ifs : List Expr) (scope : Scope) (own : List (Str × Nat)) (u : Bool) : Prop where
  calm : X.calm = true
  nd : X.N.Nodup
  hu : u = true → ∃ is, p = .tp is
  ow : own.map (·.2) = slotsP p
  ok : BlkOk X.N X.env.scope scope own
  it : PI X tg iter (tI W g0 H0 Wx u (evI T C it))
  tg : InBlk X scope fun Y => ∀ g0 H0, PG Y tg (tB W g0 H0 p)
  ifs : InBlk X scope fun Y => PTs Y ifs (tCx W (evC T C c))
  el : InBlk X scope fun Y => ∀ g0 H0, PE Y elt (tM W g0 H0 WF0 (ev T C e))
  fs : ∀ x, foldedSetIterable iter X.env x = pure x
theorem cp_eq : evF T C (.cp p it c e) = fun env s => (evI T C it env s).bind fun src s => if notOw env (slotsP p) then (noExc (compS (cpF p env (evC T C c) (ev T C e)) src s)).bind fun l s => if l.length ≤ SZ then .ok (.lst l) s else .bad else .bad := by
  funext env s; simp only [evF]; rfl
theorem cp2_eq : evF T C (.cp2 p it q it2 e) = fun env s => (evI T C it env s).bind fun src s => if notOw env (slotsP p ++ slotsP q) then (noExc (compS (cp2F p q env (evI T C it2) (ev T C e)) src s)).bind fun l s => if l.length ≤ SZ then .ok (.lst l) s else .bad else .bad := by
  funext env s; simp only [evF]; rfl
theorem cf_lc (k : LcOk X W g0 H0 Wx T C p it c e tg iter elt ifs scope own u) : PE X (.ListComp elt [⟨tg, iter, ifs, 0⟩] scope pos) (tMF W g0 H0 Wx (evF T C (.cp p it c e))) :=
  (pe_lc k.calm k.nd k.it k.ok (fun s H C cl fp => pgx (k.tg s H C cl fp)) k.ifs (fun s H C cl fp => pex (k.el s H C cl fp)) k.fs).imp' fun σ H Q h => by
    rw [cp_eq] at h
    rw [k.ow]
    exact lc_imp k.hu h
/-- name = [..], the list's own -/
theorem cs_ownLc {i : Nat} {y : Str} {py : Pos} (k : LcOk X W g0 H0 Wx T C p it c e tg iter elt ifs scope own u) (hy : X.N[i]? = some y) (hyl : X.env.scope.names.lookup y = some .local)
    (hsw : swapsWith (.ListComp elt [⟨tg, iter, ifs, 0⟩] scope pos) (some (.Name y py)) spos.line X.env = pure true) :
    PS X (.Assign [.Name y py] (.ListComp elt [⟨tg, iter, ifs, 0⟩] scope pos) spos) (tAsg (tMF W g0 H0 Wx (evF T C (.cp p it c e))) (gName i)) :=
  (ps_setLc k.calm k.nd hy hyl hsw k.it k.ok (fun s H C cl fp => pgx (k.tg s H C cl fp)) k.ifs (fun s H C cl fp => pex (k.el s H C cl fp)) k.fs).imp' fun D σ H h => by
    have h : tMF W g0 H0 Wx (evF T C (.cp p it c e)) σ H (fun x H1 => gName i x σ H1 D.nx) := h
    rw [cp_eq] at h
    rw [k.ow]
    exact lc_imp k.hu h
structure Lc2Ok (X : Cx) (W : Wld) (g0 : Gh) (H0 : Hp) (Wx : WX) (T : Tab) (C : CallF) (p q : Pat) (it it2 : I) (e : E) (tg iter tg2 iter2 elt : Expr) (scope : Scope) (own : List (Str × Nat)) (u u2 : Bool) : Prop where
  calm : X.calm = true
  nd : X.N.Nodup
  hu : u = true → ∃ is, p = .tp is
  hu2 : u2 = true → ∃ is, q = .tp is
  ow : own.map (·.2) = slotsP p ++ slotsP q
  ok : BlkOk X.N X.env.scope scope own
  it : PI X tg iter (tI W g0 H0 Wx u (evI T C it))
  tg : InBlk X scope fun Y => ∀ g0 H0, PG Y tg (tB W g0 H0 p)
  it2 : InBlk X scope fun Y => ∀ g0 H0, PI Y tg2 iter2 (tI W g0 H0 WF0 u2 (evI T C it2))
  tg2 : InBlk X scope fun Y => ∀ g0 H0, PG Y tg2 (tB W g0 H0 q)
  el : InBlk X scope fun Y => ∀ g0 H0, PE Y elt (tM W g0 H0 WF0 (ev T C e))
  fs : ∀ x, foldedSetIterable iter X.env x = pure x
  fs2 : ∀ env x, foldedSetIterable iter2 env x = pure x
theorem cf_lc2 (k : Lc2Ok X W g0 H0 Wx T C p q it it2 e tg iter tg2 iter2 elt scope own u u2) : PE X (.ListComp elt [⟨tg, iter, [], 0⟩, ⟨tg2, iter2, [], 0⟩] scope pos) (tMF W g0 H0 Wx (evF T C (.cp2 p it q it2 e))) :=
  (pe_lc2 (vs1 := slotsP q) k.calm k.nd k.it k.ok (fun i hi => by rw [k.ow]; exact List.mem_append_right _ hi) (fun s H C cl fp => pgx (k.tg s H C cl fp)) (fun _ _ _ _ _ => pts_nil) (fun s H C cl fp => pix (k.it2 s H C cl fp)) (fun s H C cl fp => pgx (k.tg2 s H C cl fp)) (fun _ _ _ _ _ => pts_nil) (fun s H C cl fp => pex (k.el s H C cl fp)) k.fs k.fs2).imp' fun σ H Q h => by
    rw [cp2_eq] at h
    rw [k.ow]
    exact lc2_imp k.hu k.hu2 h
theorem cs_ownLc2 {i : Nat} {y : Str} {py : Pos} (k : Lc2Ok X W g0 H0 Wx T C p q it it2 e tg iter tg2 iter2 elt scope own u u2) (hy : X.N[i]? = some y) (hyl : X.env.scope.names.lookup y = some .local)
    (hsw : swapsWith (.ListComp elt [⟨tg, iter, [], 0⟩, ⟨tg2, iter2, [], 0⟩] scope pos) (some (.Name y py)) spos.line X.env = pure true) :
    PS X (.Assign [.Name y py] (.ListComp elt [⟨tg, iter, [], 0⟩, ⟨tg2, iter2, [], 0⟩] scope pos) spos) (tAsg (tMF W g0 H0 Wx (evF T C (.cp2 p it q it2 e))) (gName i)) :=
  (ps_setLc2 (vs1 := slotsP q) k.calm k.nd hy hyl hsw k.it k.ok (fun i hi => by rw [k.ow]; exact List.mem_append_right _ hi) (fun s H C cl fp => pgx (k.tg s H C cl fp)) (fun _ _ _ _ _ => pts_nil) (fun s H C cl fp => pix (k.it2 s H C cl fp)) (fun s H C cl fp => pgx (k.tg2 s H C cl fp)) (fun _ _ _ _ _ => pts_nil) (fun s H C cl fp => pex (k.el s H C cl fp)) k.fs k.fs2).imp' fun D σ H h => by
    have h : tMF W g0 H0 Wx (evF T C (.cp2 p it q it2 e)) σ H (fun x H1 => gName i x σ H1 D.nx) := h
    rw [cp2_eq] at h
    rw [k.ow]
    exact lc2_imp k.hu k.hu2 h
/-! ### a store of what may be new -/
variable {i : Nat} {f : F} {ee : Expr} {s1 : Stmt}
theorem cs_asgF (h : PS X s1 (tAsg (tMF W g0 H0 Wx (evF T C f)) (gName i))) : PS X s1 (tS W g0 H0 Wx (ex T C (.asg (.nm i) (.fr f)))) :=
  h.imp' fun D σ H ⟨env, st, g, si, af⟩ => by
    simp only [ex, ev] at af
    refine ⟨env, st, g, si, Aft.nw (Q := fun x H1 => gName i x σ H1 D.nx) (af.bind.imp fun d st1 g1 H1 l1 si1 af1 v rv => ?_)⟩
    simp only [bindPat] at af1
    split at af1
    · rename_i h
      split at h <;> cases h
      exact af1.nx (si1.setPu rv)
    · exact af1.elim
theorem cs_ownF (h : PS X s1 (tAsg (tMF W g0 H0 Wx (evF T C f)) (gName i))) (hflat : ∀ env s d s', evF T C f env s = .ok d s' → flatD d = false) : PS X s1 (tS W g0 H0 Wx (ex T C (.own i f))) :=
  h.imp' fun D σ H ⟨env, st, g, si, af⟩ => by
    simp only [ex] at af
    have hfl := hflat env st
    refine ⟨env, st, g, si, ?_⟩
    revert af hfl
    cases evF T C f env st with
    | bad => exact fun af _ => af
    | exc c fs s' => exact fun af _ cls dd g' H' l si' ex => af cls dd env σ g' H' l si' ex
    | ok d st1 =>
      intro af hfl g1 H1 l1 si1
      have af : AftS W g0 H0 Wx g (if i < env.length then .ok (.nx (env.set i (.ow d))) st1 else .bad) D := af
      refine ⟨fun h => ?_, fun p o => ?_⟩
      · rw [hfl d st1 rfl] at h; cases h
      · split at af
        · exact (AftS.up af l1).nx (si1.setOw o)
        · exact af.elim
end
end CF
/-! CFDc -/
/-! Dict comprehensions, keys texts. -/
namespace CF
open PySem PySem.Spec L2
section
variable {X : Cx} {W : Wld} {n : Nat} {g0 g1 g : Gh} {H0 H : Hp} {Wx : WX} {env : Env} {σ : St} {st st' : Sto} {L : Addr} {Q : VK} {acc : List D}
/-- what is wanted of the rest of the dict at L -/
def KD (W : Wld) (g0 : Gh) (H0 : Hp) (env : Env) (σ : St) (L : Addr) (Q : VK) (acc : List D) (g : Gh) : R (List D) → Prop
  | .ok l st => (acc ++ l).length ≤ SZ ∧ ∃ ps, pairsOf (acc ++ l) = some ps ∧ ∀ g' H' kvs, Gh.le g g' → SI W g0 H0 env st g' σ H' → g'.fz L = none → L ∉ g'.mu → (∀ (i : Nat) d, env[i]? = some (.ow d) → σ[i]? ≠ some (some (.ref L))) → H' L = some (.dK kvs) → PK g' kvs (mergeD [] ps) → (kvs.map (·.1)).Nodup → Q (.ref L) H'
  | _ => False
theorem KD.up {r : R (List D)} (h : KD W g0 H0 env σ L Q acc g1 r) (le : Gh.le g1 g) : KD W g0 H0 env σ L Q acc g r := by
  cases r with
  | ok l st =>
    obtain ⟨h1, ps, h2, h3⟩ := h
    exact ⟨h1, ps, h2, fun g' H' kvs l' => h3 g' H' kvs (le.trans l')⟩
  | _ => exact h
theorem KD.add {r : R (List D)} {o : List D} (h : KD W g0 H0 env σ L Q acc g (r.bind fun l s => .ok (o ++ l) s)) : KD W g0 H0 env σ L Q (acc ++ o) g r := by
  cases r with
  | ok l st =>
    obtain ⟨h1, ps, h2, h3⟩ := h
    exact ⟨by rw [List.append_assoc]; exact h1, ps, by rw [List.append_assoc]; exact h2, h3⟩
  | _ => exact h
theorem KD.size {r : R (List D)} (h : KD W g0 H0 env σ L Q acc g r) : acc.length ≤ SZ := by
  cases r with
  | ok l st =>
    have q := h.1
    rw [List.length_append] at q
    omega
  | _ => exact h.elim
theorem KD.aft {α : Type} {r : R α} {f : α → Sto → R (List D)} {ga : Gh} {Ha : Hp} {Wy : WX} {enb : Env} {σb : St} (h : KD W g0 H0 env σ L Q acc g (r.bind f)) : Aft W ga Ha Wy enb σb g r (fun a st' g' _ => KD W g0 H0 env σ L Q acc g' (f a st')) := by
  cases r with
  | ok a st => exact fun g' H' le si => KD.up (r := f a st) h le
  | _ => exact h.elim
/-- a turn -/
def dcF (p : Pat) (env : Env) (mk mv : Env → Sto → R D) (d : D) (s : Sto) : R (List D) := match bindPat p d (wipeE env (slotsP p)) with
  | none => .bad
  | some env' => (mk env' s).bind fun a s => (mv env' s).bind fun b s => if isStr a then .ok [.tup [a, b]] s else .bad
theorem kd_start {F : D → Sto → R (List D)} {src : Src} {c : Bool} (si : SI W g0 H0 env st g σ H) (hL : H L = none)
    (af : Aft W g0 H0 Wx env σ g (if c = true then (noExc (compS F src st)).bind fun l s => if l.length ≤ SZ then (match pairsOf l with | some ps => .ok (.dct (mergeD [] ps)) s | none => .bad) else .bad else .bad) (Nw W H0 env σ Q)) :
    c = true ∧ KD W g0 H0 env σ L Q [] g (compN (nxtOf src) F (szOf src + 1) 0 st) := by
  cases c with
  | false => exact af.elim
  | true =>
    refine ⟨rfl, ?_⟩
    rw [← compS_eq]
    rw [if_pos rfl] at af
    revert af
    cases compS F src st with
    | bad => exact fun af => af
    | exc c fs s' => exact fun af => af
    | ok l s' =>
      intro af
      have af : Aft W g0 H0 Wx env σ g (if l.length ≤ SZ then (match pairsOf l with | some ps => .ok (.dct (mergeD [] ps)) s' | none => .bad) else .bad) (Nw W H0 env σ Q) := af
      split at af
      · rename_i hz
        cases hp : pairsOf l with
        | none => rw [hp] at af; exact af.elim
        | some ps =>
          rw [hp] at af
          exact ⟨hz, ps, hp, fun g' H' kvs le si' nf nm no hD pk nd => (af g' H' le si').2 L ⟨nf, nm, (g0_no si hL).1, no, .dK kvs, hD, .inl ⟨kvs, rfl, pk, nd⟩⟩⟩
      · exact af.elim
theorem pairsOf_cons {d : D} {l : List D} {ps : List (D × D)} (h : pairsOf (d :: l) = some ps) : ∃ k v q, d = .tup [k, v] ∧ pairsOf l = some q ∧ ps = (k, v) :: q := by
  unfold pairsOf at h
  split at h
  · rename_i e; cases e
  · rename_i k v r e
    cases e
    cases hq : pairsOf l with
    | none => rw [hq] at h; cases h
    | some q => rw [hq] at h; cases h; exact ⟨k, v, q, rfl, rfl, rfl⟩
  · cases h
theorem pairsOf_snoc {a b : D} : ∀ {l : List D} {ps : List (D × D)}, pairsOf l = some ps → pairsOf (l ++ [.tup [a, b]]) = some (ps ++ [(a, b)])
  | [], ps, h => by cases h; rfl
  | d :: l, ps, h => by
    obtain ⟨k, v, q, rfl, hq, rfl⟩ := pairsOf_cons h
    rw [List.cons_append, pairsOf, pairsOf_snoc hq]
    rfl
theorem mergeD_snoc {a b : D} : ∀ {ps d : List (D × D)}, mergeD d (ps ++ [(a, b)]) = putD a b (mergeD d ps)
  | [], _ => rfl
  | (k, v) :: ps, d => by rw [List.cons_append, mergeD, mergeD, mergeD_snoc]
theorem pk_le {kvs : List (Key × V)} {l : List (D × D)} (le : Gh.le g g1) (h : PK g kvs l) : PK g1 kvs l := Paired.mapP h fun _ _ z => ⟨z.1, z.2.mono le⟩
theorem dc_imp {mi : Env → Sto → R Src} {p : Pat} {mk mv : Env → Sto → R D} {u : Bool} (hu : u = true → ∃ is, p = .tp is)
    (h : tMF W g0 H0 Wx (fun env s => (mi env s).bind fun src s => if notOw env (slotsP p) then (noExc (compS (dcF p env mk mv) src s)).bind fun l s => if l.length ≤ SZ then (match pairsOf l with | some ps => .ok (.dct (mergeD [] ps)) s | none => .bad) else .bad else .bad) σ H Q) :
    tDc (tI W g0 H0 Wx u mi) (tBx W p) tYes (tMx W mk) (tMx W mv) (slotsP p) σ H Q := by
  obtain ⟨env, st, g, si, af⟩ := h
  refine ⟨env, st, g, si, af.bind.imp fun src st1 g1 H1 l1 si1 af1 J js L hL => ?_⟩
  obtain ⟨hno, kr⟩ := kd_start si1 hL af1
  obtain ⟨h0, n0, m0⟩ := g0_no si1 hL
  have siL := si1.next (si1.hs.lay hL (o := .dK [])) (Frm.lay hL)
  refine ⟨fun i m H => ∃ st g kvs acc ps, SI W g0 (upd H0 L (.dK kvs)) (wipeE env (slotsP p)) st g (L2.wipe σ (slotsP p)) H ∧ Gh.le g1 g ∧ pairsOf acc = some ps ∧ PK g kvs (mergeD [] ps) ∧ (kvs.map (·.1)).Nodup ∧ kvs.length ≤ acc.length ∧ KD W g0 H0 env σ L Q acc g (compN (nxtOf src) (dcF p env mk mv) m i st),
    ⟨szOf src + 1, st1, g1, [], [], [], ?_, .refl g1, rfl, .nil, List.nodup_nil, Nat.le_refl _, kr⟩, ?_⟩
  · exact (siL.wipe (slotsP p)).base upd_same h0 (si1.hs.nofz hL) (si1.hs.nomu hL) fun i d e e2 => by
      obtain ⟨e', hi⟩ := wipeE_ow e
      rw [wipeS_out hi] at e2
      exact own_no si1 hL i d e' e2
  · rintro i m H ⟨st2, g2, kvs, acc, ps, si2, le2, hps, pk, nd, hkl, k⟩
    cases m with
    | zero => exact k.elim
    | succ m =>
      unfold compN at k
      cases e : nxtOf src i st2 with
      | none => rw [e] at k; exact k.elim
      | some o =>
        rw [e] at k
        obtain ⟨hstop, hgo⟩ := js_nxt js le2 si2 e
        cases o with
        | none =>
          obtain ⟨si3, hD, nf, nm, no⟩ := si2.unbase h0 n0 m0
          obtain ⟨_, ps', hp', k3⟩ := k
          rw [List.append_nil, hps] at hp'
          cases hp'
          refine .inl ⟨hstop rfl, k3 g2 H kvs (.refl g2) (si1.unwipe si3 le2 hno) nf nm (fun i d e => ?_) hD pk nd⟩
          have hi := notOw_at hno e
          rw [← wipeS_out hi (σ := σ)]
          exact no i d (by rw [wipeE_out hi]; exact e)
        | some d =>
          obtain ⟨hgo1, hy⟩ := hgo d rfl
          refine .inr ⟨hgo1, fun H' => ∃ st g kvs acc ps, SI W g0 (upd H0 L (.dK kvs)) (wipeE env (slotsP p)) st g (L2.wipe σ (slotsP p)) H' ∧ Gh.le g1 g ∧ pairsOf acc = some ps ∧ PK g kvs (mergeD [] ps) ∧ (kvs.map (·.1)).Nodup ∧ kvs.length ≤ acc.length ∧ KD W g0 H0 env σ L Q acc g (compN (nxtOf src) (dcF p env mk mv) m (i + 1) st), fun H' h => ⟨m, Nat.lt_succ_self m, h⟩, fun x H' hx => ?_⟩
          obtain ⟨si3, yr⟩ := hy x H' hx
          simp only at k
          cases eb : bindPat p d (wipeE env (slotsP p)) with
          | none => unfold dcF at k; rw [eb] at k; exact k.elim
          | some env' =>
            have k : KD W g0 H0 env σ L Q acc g2 (((mk env' st2).bind fun a s => (mv env' s).bind fun b s => if isStr a then .ok [.tup [a, b]] s else .bad).bind fun o s1 => (compN (nxtOf src) (dcF p env mk mv) m (i + 1) s1).bind fun l s2 => .ok (o ++ l) s2) := by
              unfold dcF at k; rw [eb] at k; exact k
            rw [bind_assocR] at k
            refine ⟨g0, upd H0 L (.dK kvs), u, _, st2, g2, d, env', si3, yr, hu, eb, fun σ2 hl ho si4 => ⟨wipe_again hl ho, ?_⟩⟩
            show tMx W mk σ2 _ _
            refine ⟨g0, upd H0 L (.dK kvs), env', st2, g2, si4, k.aft.imp fun a st4 g4 H4 l4 si5 k4 v rv => ?_⟩
            rw [bind_assocR] at k4
            refine ⟨g0, upd H0 L (.dK kvs), env', st4, g4, si5, k4.aft.imp fun y st5 g5 H5 l5 si6 k5 z rz => ?_⟩
            cases a with
            | str w =>
              obtain ⟨ev, ow⟩ := rv.str_inv
              subst ev
              obtain ⟨si7, hD, nf, nm, no⟩ := si6.unbase h0 n0 m0
              have k6 : KD W g0 H0 env σ L Q (acc ++ [.tup [.str w, y]]) g5 (compN (nxtOf src) (dcF p env mk mv) m (i + 1) st5) := KD.add (o := [.tup [.str w, y]]) k5
              have sz := k6.size
              have l7 := (l4.trans l5)
              rw [List.length_append] at sz
              have sz1 : acc.length < SZ := sz
              refine ⟨kvs, Sum.inr (toS w), rfl, hD, Nat.lt_of_le_of_lt hkl (lt_line sz1), st5, g5, putK kvs (Sum.inr (toS w)) z, acc ++ [.tup [.str w, y]], ps ++ [(.str w, y)], ?_, le2.trans l7, pairsOf_snoc hps, ?_, putK_nodup nd, ?_, k6⟩
              · exact si_turn (fun _ h => h) si3 eb ho ((si7.putD (o := .dK (putK kvs (Sum.inr (toS w)) z)) h0 (by rw [hD]; simp) nf nm (fun _ _ z => by rw [hD] at z; cases z) no).base upd_same h0 nf nm no) l7
              · rw [mergeD_snoc]
                exact pk_put ow rz (pk_le l7 pk) nd
              · have := length_putK kvs (Sum.inr (toS w)) z
                rw [List.length_append, List.length_singleton]
                omega
            | _ => exact k5.elim
end
section
variable {X : Cx} {W : Wld} {n : Nat} {g0 : Gh} {H0 : Hp} {Wx : WX} {T : Tab} {C : CallF} {p : Pat} {it : I} {ek ev : E} {tg iter kx vx : Expr} {scope : Scope} {own : List (Str × Nat)} {pos spos : Pos} {u : Bool}
/-- {..} takes the name's place within the comprehension's own run -/
theorem ps_setDc {i : Nat} {y : Str} {py : Pos} {wi : TI} {g : TG} {tt : TT} {tk tv : TE} (hc : X.calm = true) (hN : X.N.Nodup) (hy : X.N[i]? = some y) (hyl : X.env.scope.names.lookup y = some .local)
    (hsw : swapsWith (.DictComp kx vx [⟨tg, iter, [], 0⟩] scope pos) (some (.Name y py)) spos.line X.env = pure true) (hi : PI X tg iter wi) (ok : BlkOk X.N X.env.scope scope own)
    (hg : InBlk X scope fun Y => PG Y tg g) (ht : InBlk X scope fun Y => PTs Y [] tt) (hk : InBlk X scope fun Y => PE Y kx tk) (he : InBlk X scope fun Y => PE Y vx tv) (hs : ∀ x, foldedSetIterable iter X.env x = pure x) :
    PS X (.Assign [.Name y py] (.DictComp kx vx [⟨tg, iter, [], 0⟩] scope pos) spos) (tAsg (tDc wi g tt tk tv (own.map (·.2))) (gName i)) := by
  refine ⟨fun pins s σ H D I h => ?_⟩
  have h : tDc wi g tt tk tv (own.map (·.2)) σ H (fun x H1 => gName i x σ H1 D.nx) := h
  rw [exec_Assign_Name_used _ _ _ _ hsw]
  refine wpAny_bind (wpAny_standAt (wpAny_bind (wpAny_bind (thn (dc_core (use := some (assign (.Name y py) X.env)) (pos' := iter.pos) (Qf := fun _ s' => SP X pins D .next s') hc hN I hi ok hg ht hk he hs h fun L C s' m H' I' q hn f => ?_) fun _ s' hq => wpAny_pure (wpAny_pure hq)))))
  show wpAny _ _ (assign (.Name y py) X.env (.ref L)) _ _ _
  refine wpAny_assign_Name (store_ok2 (v := V.ref L) I' hN hy (.inl hyl) rfl (fun s2 I2 ⟨a, sb, ha⟩ => ?_) (.inr hyl))
  obtain ⟨f0, f1, f2, f3, f4, f5⟩ := f
  have haC : C ≠ a := by
    rcases ha with z | z
    · rw [z]; exact f1
    · exact fun e => f4 y a z e.symm
  exact ⟨m, hn.sameBut sb haC, fun h3 sb3 => ⟨_, H', I2.turned (t' := s2.toks) (fun b o hb e => (sb3.2 b hb).trans e) f0 f1 f3 f4 f5, q⟩⟩
structure DcOk (X : Cx) (W : Wld) (g0 : Gh) (H0 : Hp) (Wx : WX) (T : Tab) (C : CallF) (p : Pat) (it : I) (ek ev : E) (tg iter kx vx : Expr) (scope : Scope) (own : List (Str × Nat)) (u : Bool) : Prop where
  calm : X.calm = true
  nd : X.N.Nodup
  hu : u = true → ∃ is, p = .tp is
  ow : own.map (·.2) = slotsP p
  ok : BlkOk X.N X.env.scope scope own
  it : PI X tg iter (tI W g0 H0 Wx u (evI T C it))
  tg : InBlk X scope fun Y => ∀ g0 H0, PG Y tg (tB W g0 H0 p)
  kx : InBlk X scope fun Y => ∀ g0 H0, PE Y kx (tM W g0 H0 WF0 (CF.ev T C ek))
  vx : InBlk X scope fun Y => ∀ g0 H0, PE Y vx (tM W g0 H0 WF0 (CF.ev T C ev))
  fs : ∀ x, foldedSetIterable iter X.env x = pure x
theorem dcp_eq : evF T C (.dcp p it ek ev) = fun env s => (evI T C it env s).bind fun src s => if notOw env (slotsP p) then (noExc (compS (dcF p env (CF.ev T C ek) (CF.ev T C ev)) src s)).bind fun l s => if l.length ≤ SZ then (match pairsOf l with | some ps => .ok (.dct (mergeD [] ps)) s | none => .bad) else .bad else .bad := by
  funext env s; simp only [evF]; rfl
theorem cf_dc (k : DcOk X W g0 H0 Wx T C p it ek ev tg iter kx vx scope own u) : PE X (.DictComp kx vx [⟨tg, iter, [], 0⟩] scope pos) (tMF W g0 H0 Wx (evF T C (.dcp p it ek ev))) :=
  (pe_dc k.calm k.nd k.it k.ok (fun s H C cl fp => pgx (k.tg s H C cl fp)) (fun _ _ _ _ _ => pts_nil) (fun s H C cl fp => pex (k.kx s H C cl fp)) (fun s H C cl fp => pex (k.vx s H C cl fp)) k.fs).imp' fun σ H Q h => by
    rw [dcp_eq] at h
    rw [k.ow]
    exact dc_imp k.hu h
theorem cs_ownDc {i : Nat} {y : Str} {py : Pos} (k : DcOk X W g0 H0 Wx T C p it ek ev tg iter kx vx scope own u) (hy : X.N[i]? = some y) (hyl : X.env.scope.names.lookup y = some .local)
    (hsw : swapsWith (.DictComp kx vx [⟨tg, iter, [], 0⟩] scope pos) (some (.Name y py)) spos.line X.env = pure true) :
    PS X (.Assign [.Name y py] (.DictComp kx vx [⟨tg, iter, [], 0⟩] scope pos) spos) (tAsg (tMF W g0 H0 Wx (evF T C (.dcp p it ek ev))) (gName i)) :=
  (ps_setDc k.calm k.nd hy hyl hsw k.it k.ok (fun s H C cl fp => pgx (k.tg s H C cl fp)) (fun _ _ _ _ _ => pts_nil) (fun s H C cl fp => pex (k.kx s H C cl fp)) (fun s H C cl fp => pex (k.vx s H C cl fp)) k.fs).imp' fun D σ H h => by
    have h : tMF W g0 H0 Wx (evF T C (.dcp p it ek ev)) σ H (fun x H1 => gName i x σ H1 D.nx) := h
    rw [dcp_eq] at h
    rw [k.ow]
    exact dc_imp k.hu h
end
end CF
/-! CFFst -/
/-! f-strings of texts. -/
namespace CF
open PySem PySem.Spec L2
/-- the parts as written: a constant, or a value to be formatted -/
inductive FJ (X : Cx) (W : Wld) (n : Nat) (g0 : Gh) (H0 : Hp) (Wx : WX) : As → List Expr → List TE → Prop where
  | nil : FJ X W n g0 H0 Wx .nil [] []
  | con {e : E} {es : As} {x : Expr} {l : List Expr} {ts : List TE} (h : PE X x (tM W g0 H0 Wx (ev W.T (callN W.T n) e))) (r : FJ X W n g0 H0 Wx es l ts) : FJ X W n g0 H0 Wx (.cons e es) (x :: l) (tM W g0 H0 Wx (ev W.T (callN W.T n) e) :: ts)
  | val {e : E} {es : As} {x : Expr} {p : Pos} {l : List Expr} {ts : List TE} (h : PE X x (tM W g0 H0 Wx (ev W.T (callN W.T n) e))) (r : FJ X W n g0 H0 Wx es l ts) : FJ X W n g0 H0 Wx (.cons e es) (.FormattedValue x (-1) none p :: l) (tFmt (tM W g0 H0 Wx (ev W.T (callN W.T n) e)) :: ts)
section
variable {X : Cx} {W : Wld} {n : Nat} {g0 : Gh} {H0 : Hp} {Wx : WX} {env : Env} {σ : St} {Q : VK}
theorem FJ.pj {es : As} {l : List Expr} {ts : List TE} (h : FJ X W n g0 H0 Wx es l ts) : PJ X l ts := by
  induction h with
  | nil => exact .nil
  | con h r ih => exact .cons h ih
  | val h r ih => exact .cons (pe_fmt h) ih
theorem strsOf_cons {d : D} {ds : List D} {ws : List (List Nat)} (h : strsOf (d :: ds) = some ws) : ∃ w q, d = .str w ∧ strsOf ds = some q ∧ ws = w :: q := by
  cases d with
  | str w =>
    unfold strsOf at h
    cases hq : strsOf ds with
    | none => rw [hq] at h; cases h
    | some q => rw [hq] at h; cases h; exact ⟨w, q, rfl, rfl, rfl⟩
  | _ => cases h
theorem fst_go {es : As} {l : List Expr} {ts : List TE} (h : FJ X W n g0 H0 Wx es l ts) : ∀ {st s2 : Sto} {g : Gh} {H : Hp} {ds : List D} {ws : List (List Nat)} {acc : List Nat}, evs W.T (callN W.T n) es env st = .ok ds s2 → strsOf ds = some ws → (acc ++ ws.flatten).length ≤ SZ → okS acc → SI W g0 H0 env st g σ H →
    (∀ g' H', Gh.le g g' → SI W g0 H0 env s2 g' σ H' → okS (acc ++ ws.flatten) → Q (.str (toS (acc ++ ws.flatten))) H') → tJs ts (toS acc) σ H fun out H1 => Q (.str out) H1 := by
  have step : ∀ {e : E} {es : As} {st s2 : Sto} {ds : List D}, evs W.T (callN W.T n) (.cons e es) env st = .ok ds s2 → ∃ d s1 dr, ev W.T (callN W.T n) e env st = .ok d s1 ∧ evs W.T (callN W.T n) es env s1 = .ok dr s2 ∧ ds = d :: dr := fun {e es st s2 ds} q => by
    simp only [evs] at q
    cases h1 : ev W.T (callN W.T n) e env st with
    | ok d s1 =>
      rw [h1] at q
      have q : (evs W.T (callN W.T n) es env s1).bind (fun ds s => R.ok (d :: ds) s) = .ok ds s2 := q
      cases h2 : evs W.T (callN W.T n) es env s1 with
      | ok dr s3 => rw [h2] at q; cases q; exact ⟨d, s1, dr, rfl, h2, rfl⟩
      | exc c fs s3 => rw [h2] at q; cases q
      | bad => rw [h2] at q; cases q
    | exc c fs s1 => rw [h1] at q; cases q
    | bad => rw [h1] at q; cases q
  induction h with
  | nil =>
    intro st s2 g H ds ws acc q hs hz oa si K
    simp only [evs] at q
    cases q
    cases hs
    have := K g H (.refl g) si (by rw [List.flatten_nil, List.append_nil]; exact oa)
    rwa [List.flatten_nil, List.append_nil] at this
  | @con e es x l ts h r ih =>
    intro st s2 g H ds ws acc q hs hz oa si K
    obtain ⟨d, s1, dr, h1, h2, rfl⟩ := step q
    obtain ⟨w, wr, rfl, hs2, rfl⟩ := strsOf_cons hs
    rw [List.flatten_cons, ← List.append_assoc] at hz K
    refine ⟨env, st, g, si, ?_⟩
    rw [h1]
    intro g1 H1 le1 si1 v rv
    obtain ⟨ev, ow⟩ := rv.str_inv
    subst ev
    refine ⟨toS w, rfl, ?_, ?_⟩
    · rw [toS_app, toS_len]
      rw [List.length_append] at hz
      exact le_line (by omega)
    · rw [toS_app]
      exact ih h2 hs2 hz (okS_app oa ow) si1 fun g' H' le => K g' H' (le1.trans le)
  | @val e es x p l ts h r ih =>
    intro st s2 g H ds ws acc q hs hz oa si K
    obtain ⟨d, s1, dr, h1, h2, rfl⟩ := step q
    obtain ⟨w, wr, rfl, hs2, rfl⟩ := strsOf_cons hs
    rw [List.flatten_cons, ← List.append_assoc] at hz K
    refine ⟨env, st, g, si, ?_⟩
    rw [h1]
    intro g1 H1 le1 si1 v rv
    obtain ⟨ev, ow⟩ := rv.str_inv
    subst ev
    have hz2 : (acc ++ w).length ≤ SZ := by
      rw [List.length_append] at hz
      omega
    refine .inl ⟨toS w, rfl, ?_, toS w, rfl, ?_, ?_⟩
    · rw [toS_len]
      rw [List.length_append] at hz2
      exact le_line (by omega)
    · rw [toS_app, toS_len]
      exact le_line hz2
    · rw [toS_app]
      exact ih h2 hs2 hz (okS_app oa ow) si1 fun g' H' le => K g' H' (le1.trans le)
theorem cf_fst {es : As} {v1 v2 : Expr} {rest : List Expr} {ts : List TE} {pos : Pos} (h : FJ X W n g0 H0 Wx es (v1 :: v2 :: rest) ts) : PE X (.JoinedStr (v1 :: v2 :: rest) pos) (tM W g0 H0 Wx (ev W.T (callN W.T n) (.fst es))) :=
  (pe_joined h.pj).imp' fun σ H Q ⟨env, st, g, si, af⟩ => by
    simp only [ev] at af
    cases q : evs W.T (callN W.T n) es env st with
    | ok ds s2 =>
      rw [q] at af
      have af : Aft W g0 H0 Wx env σ g ((R.of (strsOf ds) s2).bind fun ws s => if ws.flatten.length ≤ SZ then .ok (.str ws.flatten) s else .bad) (Val Q) := af
      cases hs : strsOf ds with
      | none => rw [hs] at af; exact af.elim
      | some ws =>
        rw [hs] at af
        have af : Aft W g0 H0 Wx env σ g (if ws.flatten.length ≤ SZ then .ok (.str ws.flatten) s2 else .bad) (Val Q) := af
        split at af
        · rename_i hz
          exact fst_go (acc := []) h q hs (by simpa using hz) (fun c hc => by cases hc) si fun g' H' le si' ok => by
            rw [List.nil_append] at ok ⊢
            exact af g' H' le si' (.str (toS ws.flatten)) ⟨rfl, ok⟩
        · exact af.elim
    | exc c fs s2 => rw [q] at af; exact af.elim
    | bad => rw [q] at af; exact af.elim
end
end CF
/-! CFKd -/
/-! Dicts of the module, keys texts. -/
namespace CF
open PySem PySem.Spec L2
section
variable {X : Cx} {W : Wld} {n : Nat} {g0 : Gh} {H0 : Hp} {Wx : WX} {T : Tab} {C : CallF}
theorem ktab_at {w : List Nat} : ∀ {es : List DictEntry} {l : List (List Nat × D)}, KTab es l → ((∃ e d v, es.find? (·.key.isStr (toS w)) = some e ∧ l.lookup w = some d ∧ RelV v e.val ∧ ∀ g : Gh, RV g v d) ∨ (es.find? (·.key.isStr (toS w)) = none ∧ l.lookup w = none)) ∧ es.any (·.refKey) = false
  | _, _, .nil => ⟨.inr ⟨rfl, rfl⟩, rfl⟩
  | e :: es, (k, d) :: l, .cons ⟨⟨t, ek⟩, v, rv, r⟩ p => by
    obtain ⟨ih, ir⟩ := ktab_at (w := w) p
    have ek : e.key = .str (toS k) t := ek
    have hs : e.key.isStr (toS w) = (toS k == toS w) := by rw [ek]; rfl
    refine ⟨?_, ?_⟩
    · rw [List.find?_cons, List.lookup_cons, hs]
      by_cases h : k = w
      · subst h
        simp only [beq_self_eq_true]
        exact .inl ⟨e, d, v, rfl, rfl, rv, r⟩
      · rw [show (toS k == toS w) = false from beq_eq_false_iff_ne.mpr fun z => h (toS_inj.mp z), show (w == k) = false from beq_eq_false_iff_ne.mpr fun z => h z.symm]
        exact ih
    · rw [List.any_cons, ir, Bool.or_false]
      unfold DictEntry.refKey
      rw [ek]
theorem nsIn_at {K : PySem.W.Frag} {w0 : World} {a : Addr} {es : Array DictEntry} {k : Nat} {l : List (List Nat × D)} (D0 : KDict K w0 a es k) (h : KTab es.toList l) (w : List Nat) : (∃ u d v, PySem.W.nsIn K a (toS w) = some (some u) ∧ l.lookup w = some d ∧ RelV v u ∧ ∀ g : Gh, RV g v d) ∨ (PySem.W.nsIn K a (toS w) = some none ∧ l.lookup w = none) := by
  obtain ⟨h1, h2⟩ := ktab_at (w := w) h
  unfold PySem.W.nsIn
  rw [D0.at_]
  simp only
  rcases h1 with ⟨e, d, v, e1, e2, e3, e4⟩ | ⟨e1, e2⟩
  · rw [e1]
    exact .inl ⟨e.val, d, v, rfl, e2, e3, e4⟩
  · rw [e1, h2]
    exact .inr ⟨rfl, e2⟩
variable {a : E} {ea : Expr} {pos p : Pos} {y : Str} {l : List (List Nat × D)}
theorem cf_kin (cx : CxOk X W n Wx) (hk : W.kd y = some l) (hg : Gl X y) (ha : PE X ea (tM W g0 H0 Wx (ev T C a))) : PE X (.Compare ea [.In] [.Name y p] pos) (tM W g0 H0 Wx (ev T C (.kin l a))) := by
  obtain ⟨d, es, k, hm, hdb, D0, ht⟩ := cx.wok.kd y l hk
  have D1 : KDict X.K X.w d es k := by rw [cx.xw.K, cx.xw.w]; exact D0
  have hb : PE X (.Name y p) (tC (.ref d)) := pe_glob hg (by rw [cx.xw.mg]; exact hm) rfl hdb
  refine (pe_cmpR (op_in_kd D1) ha hb rfl).imp' fun σ H Q ⟨env, st, g, si, af⟩ => ?_
  simp only [ev] at af
  refine ⟨env, st, g, si, af.bind.imp fun dd st1 g1 H1 l1 si1 af1 x rx => ?_⟩
  cases dd with
  | str w =>
    obtain ⟨ex, _⟩ := rx.str_inv
    subst ex
    rcases nsIn_at D1 ht w with ⟨u, d2, v, e1, e2, e3, e4⟩ | ⟨e1, e2⟩
    · refine ⟨toS w, some u, rfl, rfl, e1, ?_⟩
      have af1 : Aft W g0 H0 Wx env σ g1 (.ok (.bl (l.lookup w).isSome) st1) (Val Q) := af1
      rw [e2] at af1
      exact af1 g1 H1 (.refl g1) si1 (.bl true) rfl
    · refine ⟨toS w, none, rfl, rfl, e1, ?_⟩
      have af1 : Aft W g0 H0 Wx env σ g1 (.ok (.bl (l.lookup w).isSome) st1) (Val Q) := af1
      rw [e2] at af1
      exact af1 g1 H1 (.refl g1) si1 (.bl false) rfl
  | _ => exact af1.elim
theorem cf_ksb (cx : CxOk X W n Wx) (hk : W.kd y = some l) (hg : Gl X y) (hs : PlainIx ea) (ha : PE X ea (tM W g0 H0 Wx (ev T C a))) : PE X (.Subscript (.Name y p) ea pos) (tM W g0 H0 Wx (ev T C (.ksb l a))) := by
  obtain ⟨d, es, k, hm, hdb, D0, ht⟩ := cx.wok.kd y l hk
  have D1 : KDict X.K X.w d es k := by rw [cx.xw.K, cx.xw.w]; exact D0
  have hb : PE X (.Name y p) (tC (.ref d)) := pe_glob hg (by rw [cx.xw.mg]; exact hm) rfl hdb
  refine (pe_ix ix_kdict hb ha hs).imp' fun σ H Q ⟨env, st, g, si, af⟩ => ?_
  simp only [ev] at af
  refine (⟨env, st, g, si, af.bind.imp fun dd st1 g1 H1 l1 si1 af1 x rx => ?_⟩ : tM W g0 H0 Wx (ev T C a) σ H _)
  cases dd with
  | str w =>
    obtain ⟨ex, _⟩ := rx.str_inv
    subst ex
    have af1 : Aft W g0 H0 Wx env σ g1 (R.of (l.lookup w) st1) (Val Q) := af1
    rcases nsIn_at D1 ht w with ⟨u, d2, v, e1, e2, e3, e4⟩ | ⟨e1, e2⟩
    · rw [e2] at af1
      exact ⟨d, toS w, v, rfl, rfl, ⟨es, k, u, D1.at_, D1.lit, e1, e3⟩, af1 g1 H1 (.refl g1) si1 v (e4 g1)⟩
    · rw [e2] at af1
      exact af1.elim
  | _ => exact af1.elim
end
end CF
/-! CFSet -/
/-! Sets: one more element, told by the table's state; of any kind of keys. -/
namespace CF
open PySem PySem.Spec L2
/-- a table that can be walked -/
structure Good (w : World) (n : Nat) (t : SetTable) : Prop where
  fits : t.fits n = true
  ris : Ris t.place.toList
  led : w.params.followText "set-order" = true ∨ t.led = true
/-- the set's state -/
def StateAt (h : Heap) (a : Addr) (es : Array (Int × Value)) (t : SetTable) : Prop := ∃ o ep, h.get? a = some o ∧ o.ExactSet ∧ o.data = .set es ep t
section
variable {P : Program} {w : World} {A : Around} {E : Value → Shared → Prop} {s : Shared} {a : Addr} {es : Array (Int × Value)} {t : SetTable}
theorem Good.dull {n : Nat} (g : Good w n t) : Good w n { t with plain := false } := ⟨SetTable.fits_plain_off g.fits, g.ris, g.led⟩
theorem Good.lay (g : Good w es.size t) (h : Int) (x : Value) : Good w (layNew t es h x).1.size (layNew t es h x).2.1 := ⟨layNew_fits t es h x, layNew_ris t es h x g.ris, g.led.imp id fun z => (layNew_led t es h x).trans z⟩
theorem Good.relay {n : Nat} (g : Good w n t) (m : Nat) : Good w (relayAll t es m).1.size (relayAll t es m).2.1 := ⟨relayAll_fits t es m, relayAll_ris t es m, g.led.imp id fun z => (relayAll_led t es m).trans z⟩
theorem store_state {es' : Array (Int × Value)} {t' : SetTable} {Q : Unit → Shared → Prop} (st : StateAt s.heap a es t) (g : Good w es'.size t') (few : es'.size < scanBound)
    (k : ∀ h', Heap.SameBut a s.heap h' → StateAt h' a es' t' → Q () { s with heap := h' }) : wpAny (model P w) A (storeSet a es' t') Q E s := by
  obtain ⟨o, ep, ho, ex, hd⟩ := st
  refine wpAny_storeSet_of ho hd (k _ (Heap.SameBut.update s.heap a (Obj.putSet es' t')) ⟨_, ep + 1, store_at ho hd, ex, rfl⟩) (fits_of_scanBound few)
/-- a note on the way, or none -/
theorem noted {M : Model} {m : Bool → Sem Unit} {b : Bool} {Q : Unit → Shared → Prop} (q : Q () s) (h0 : m false = pure ()) (h1 : ∃ n, m true = rule n) : wpAny M A (m b) Q E s := by
  cases b
  · rw [h0]; exact wpAny_pure q
  · obtain ⟨n, e⟩ := h1
    rw [e]; exact wpAny_rule q
/-- asked or not, the rest is the same -/
theorem asked {M : Model} {α : Type} {c : Prop} [Decidable c] {m : Sem Bool} {f : Bool → Sem α} {Q : α → Shared → Prop} (hm : ∃ b, m = pure b) (hf : ∀ b, wpAny M A (f b) Q E s) : wpAny M A (if c then m >>= f else pure true >>= f) Q E s := by
  obtain ⟨b, e⟩ := hm
  split
  · rw [e]; exact wpAny_bind (wpAny_pure (hf b))
  · exact wpAny_bind (wpAny_pure (hf true))
variable {K : Type} [DecidableEq K] {knd : KeyKind P w K}
theorem add_state {k : K} {x : Value} {Q : Bool → Shared → Prop} (st : StateAt s.heap a es t) (g : Good w es.size t) (el : ElemsOf knd es.toList) (isk : knd.is k x = true) (sc : x.scannable = true) (room : es.size + 1 < scanBound)
    (old : (∃ e ∈ es.toList, knd.is k e.2 = true) → Q false s)
    (new : (¬ ∃ e ∈ es.toList, knd.is k e.2 = true) → ∀ h' es' t', Heap.SameBut a s.heap h' → StateAt h' a es' t' → Good w es'.size t' → es'.toList.Perm (es.toList ++ [(knd.hash k, x)]) → Q true { s with heap := h' }) :
    wpAny (model P w) A (setAddHashed a x (knd.hash k)) Q E s := by
  have st0 := st
  obtain ⟨o, ep, ho, ex, hd⟩ := st
  unfold setAddHashed setAddHashedIn
  refine wpAny_holding (wpAny_bind (wpAny_setState_of ho hd g.fits ?_))
  simp only [byScan_of sc (Nat.lt_of_succ_lt room) el, if_true]
  unfold setAddByScan
  refine wpAny_bind (wpAny_bind (wpAny_rule (wpAny_bind (wpAny_setScan_of isk ho hd g.fits el ?_))))
  cases seen : List.findIdx? (fun e => knd.is k e.2) es.toList with
  | some j =>
    obtain ⟨lt, is, _⟩ := List.findIdx?_eq_some_iff_getElem.mp seen
    exact wpAny_pure (wpAny_pure (old ⟨_, List.getElem_mem lt, is⟩))
  | none =>
    have out : ¬ ∃ e ∈ es.toList, knd.is k e.2 = true := fun ⟨e, he, is⟩ => Bool.false_ne_true ((List.findIdx?_eq_none_iff.mp seen e he).symm.trans is)
    have one := layNew_perm t es (knd.hash k) x
    have g1 := g.lay (es := es) (knd.hash k) x
    rw [Array.toList_push] at one
    have more : (layNew t es (knd.hash k) x).1.size = es.size + 1 := by
      have q := one.length_eq
      rw [List.length_append, Array.length_toList, Array.length_toList] at q
      exact q
    generalize layNew t es (knd.hash k) x = laid at one g1 more ⊢
    obtain ⟨es1, t1, dummy, gave⟩ := laid
    dsimp only at one g1 more ⊢
    have few : es1.size < scanBound := by omega
    have fin : ∀ h' es' t', Heap.SameBut a s.heap h' → StateAt h' a es' t' → Good w es'.size t' → es'.toList.Perm es1.toList → wpAny (model P w) A (pure (some true)) (fun r s' => wpAny (model P w) A (match r with | some b => pure b | none => setAddHashedIn a x (knd.hash k) 99999) Q E s') E { s with heap := h' } :=
      fun h' es' t' sb st gd pm => wpAny_pure (wpAny_pure (new out h' es' t' sb st gd (pm.trans one)))
    refine wpAny_bind (noted ?_ rfl ⟨_, rfl⟩)
    refine asked ⟨_, hashByValue_scannable 8 sc⟩ fun b => ?_
    have g2 : Good w es1.size (if b = true then t1 else { t1 with plain := false }) := by
      cases b
      · exact g1.dull
      · exact g1
    generalize (if b = true then t1 else ({ t1 with plain := false } : SetTable)) = t2 at g2 ⊢
    refine wpAny_bind (store_state st0 g2 few fun h1 sb1 st1 => ?_)
    split
    · have same := relayAll_perm t2 es1 (SetTable.grown es1.size)
      have g3 := g2.relay (es := es1) (SetTable.grown es1.size)
      have size := same.length_eq
      rw [Array.length_toList, Array.length_toList] at size
      refine wpAny_bind (noted ?_ rfl ⟨_, rfl⟩)
      exact wpAny_bind (store_state (s := { s with heap := h1 }) st1 g3 (by omega) fun h2 sb2 st2 => fin h2 _ _ (sb1.trans sb2) st2 g3 same)
    · exact fin h1 es1 t2 sb1 st1 g2 (.refl _)
/-! ### by its keys, in the order of their coming -/
def addK (ks : List K) (k : K) : List K := if k ∈ ks then ks else ks ++ [k]
theorem paired_perm {α β : Type} {F : α → β → Prop} : ∀ {l l' : List α} {m : List β}, l'.Perm l → Paired F l m → ∃ m', Paired F l' m' ∧ m'.Perm m := by
  intro l l' m p
  induction p generalizing m with
  | nil => exact fun h => ⟨m, h, .refl _⟩
  | cons a _ ih =>
    intro h
    cases h with
    | cons h t =>
      obtain ⟨m', h', p'⟩ := ih t
      exact ⟨_ :: m', .cons h h', p'.cons _⟩
  | swap a b l =>
    intro h
    cases h with
    | cons h t =>
      cases t with
      | cons h2 t => exact ⟨_, .cons h2 (.cons h t), .swap _ _ _⟩
  | trans _ _ ih1 ih2 =>
    intro h
    obtain ⟨m1, h1, p1⟩ := ih2 h
    obtain ⟨m2, h2, p2⟩ := ih1 h1
    exact ⟨m2, h2, p2.trans p1⟩
theorem paired_size {α β : Type} {F : α → β → Prop} : ∀ {a : List α} {b : List β}, Paired F a b → a.length = b.length
  | _, _, .nil => rfl
  | _, _, .cons _ t => congrArg (· + 1) (paired_size t)
theorem paired_snoc {α β : Type} {F : α → β → Prop} {x : α} {y : β} (h : F x y) : ∀ {a : List α} {b : List β}, Paired F a b → Paired F (a ++ [x]) (b ++ [y])
  | _, _, .nil => .cons h .nil
  | _, _, .cons a t => .cons a (paired_snoc h t)
theorem paired_mem {α β : Type} {F : α → β → Prop} {y : β} : ∀ {a : List α} {b : List β}, Paired F a b → y ∈ b → ∃ x ∈ a, F x y
  | _, _, .nil, h => by cases h
  | _, _, .cons f t, h => by
    rcases List.mem_cons.mp h with z | z
    · exact ⟨_, .head _, z ▸ f⟩
    · obtain ⟨x, hx, g⟩ := paired_mem t z
      exact ⟨x, .tail _ hx, g⟩
theorem paired_mem' {α β : Type} {F : α → β → Prop} {x : α} : ∀ {a : List α} {b : List β}, Paired F a b → x ∈ a → ∃ y ∈ b, F x y
  | _, _, .nil, h => by cases h
  | _, _, .cons f t, h => by
    rcases List.mem_cons.mp h with z | z
    · exact ⟨_, .head _, z ▸ f⟩
    · obtain ⟨y, hy, g⟩ := paired_mem' t z
      exact ⟨y, .tail _ hy, g⟩
/-- the set at a holds the keys ks -/
def SetL (knd : KeyKind P w K) (h : Heap) (a : Addr) (ks : List K) : Prop :=
  ∃ es t kk, StateAt h a es t ∧ Good w es.size t ∧ ElemsOf knd es.toList ∧ es.size < scanBound ∧ Paired (fun e k => knd.is k e.2 = true) es.toList kk ∧ kk.Perm ks
theorem SetL.move {h h' : Heap} {ks : List K} (S : SetL knd h a ks) (k : ∀ o, h.get? a = some o → h'.get? a = some o) : SetL knd h' a ks :=
  let ⟨es, t, kk, ⟨o, ep, ho, r⟩, q⟩ := S
  ⟨es, t, kk, ⟨o, ep, k o ho, r⟩, q⟩
theorem SetL.add {ks : List K} {k : K} {x : Value} {Q : Bool → Shared → Prop} (S : SetL knd s.heap a ks) (isk : knd.is k x = true) (sc : x.scannable = true) (room : ks.length + 1 < scanBound)
    (q : ∀ b h', Heap.SameBut a s.heap h' → SetL knd h' a (addK ks k) → Q b { s with heap := h' }) : wpAny (model P w) A (setAddHashed a x (knd.hash k)) Q E s := by
  obtain ⟨es, t, kk, st, g, el, _, pr, pm⟩ := S
  have sz : es.size = ks.length := by rw [← Array.length_toList, paired_size pr, pm.length_eq]
  refine add_state st g el isk sc (by omega) (fun ⟨e, he, i⟩ => q _ s.heap (Heap.SameBut.refl _ _) ?_) fun out h' es' t' sb st' g' pe => q _ h' sb ?_
  · obtain ⟨j, hj, i'⟩ := paired_mem' pr he
    have same := knd.inj e.2 j k i' i
    rw [addK, if_pos (pm.mem_iff.mp (same ▸ hj))]
    exact ⟨es, t, kk, st, g, el, by omega, pr, pm⟩
  · rw [addK, if_neg fun z => out (paired_mem (F := fun (e : Int × Value) k => knd.is k e.2 = true) pr (pm.mem_iff.mpr z))]
    obtain ⟨kk', pr', pk⟩ := paired_perm pe (paired_snoc (F := fun (e : Int × Value) k => knd.is k e.2 = true) (x := (knd.hash k, x)) isk pr)
    refine ⟨es', t', kk', st', g', (el.push isk sc).perm pe, ?_, pr', pk.trans (pm.append_right _)⟩
    rw [← Array.length_toList, pe.length_eq, List.length_append, Array.length_toList, sz]
    exact room
theorem addK_len (ks : List K) (k : K) : (addK ks k).length ≤ ks.length + 1 := by
  unfold addK; split <;> simp
theorem foldK_len (l acc : List K) : (l.foldl addK acc).length ≤ acc.length + l.length := by
  induction l generalizing acc with
  | nil => exact Nat.le_refl _
  | cons x r ih => exact Nat.le_trans (ih _) (by have := addK_len acc x; simp only [List.length_cons]; omega)
/-- what is walked has these keys, place by place -/
def Keyed (knd : KeyKind P w K) (ks : List K) (Pv : Nat → Value → Prop) : Prop := ∀ i v, Pv i v → ∃ k, ks[i]? = some k ∧ knd.is k v = true ∧ v.scannable = true
theorem loop_sets {I S : Addr} {fp wr : List Addr} {G : Array GenState → Array GenState → Prop} {Pv : Nat → Value → Prop} {St : Nat → Shared → Prop} {R : Result → Shared → Prop} {ks : List K} (W : WalksS P w A.in1 I fp wr G ks.length Pv St) (apart : S ∉ fp) (kd : Keyed knd ks Pv) (few : ks.length + 1 < scanBound)
    (fin : ∀ s', SetL knd s'.heap S (ks.foldl addK []) → Moved (S :: wr) G s s' → R (.ok (.ret .none)) s') :
    ∀ (left i : Nat) (s' : Shared), i + left = ks.length → St i s' → SetL knd s'.heap S ((ks.take i).foldl addK []) → Moved (S :: wr) G s s' → codeAny (model P w) A (.builtin "set.update.loop" ⟨[.ref S, .ref I], []⟩) R s' := by
  have own : S ∉ wr := fun z => apart (W.sub _ z)
  have wide : ∀ b ∈ wr, b ∈ S :: wr := fun b z => .tail _ z
  intro left
  induction left with
  | zero =>
    intro i s' sum st set mv
    cases (show i = ks.length from sum)
    refine codeAny_builtin PyProof.Rows.F.entry_set_update_loop ?_
    rw [Around.under_plainId PyProof.Rows.F.plain_set_update_loop]
    unfold Builtin.«set.update.loop»
    refine wpAny_bind (W.done s' _ _ st fun s2 m2 => wpAny_pure (fin s2 ?_ (Moved.trans W.gtrans mv (m2.mono wide))))
    rw [List.take_length] at set
    exact set.move fun o e => m2.heap S o own e
  | succ left ih =>
    intro i s' sum st set mv
    refine codeAny_builtin PyProof.Rows.F.entry_set_update_loop ?_
    rw [Around.under_plainId PyProof.Rows.F.plain_set_update_loop]
    unfold Builtin.«set.update.loop»
    refine wpAny_bind (W.item i s' _ _ (by omega) st fun v s2 hv st2 m2 => ?_)
    obtain ⟨k, hk, isk, sc⟩ := kd i v hv
    refine wpAny_bind (wpAny_holding (wpAny_holding (wpAny_bind (knd.pyHash isk ?_))))
    have room : ((ks.take i).foldl addK []).length + 1 < scanBound := by
      have a1 := foldK_len (ks.take i) []
      have a2 := List.length_take_le i ks
      rw [List.length_nil] at a1
      omega
    refine SetL.add (s := { s2 with toks := s2.toks + 1 }) (set.move fun o e => m2.heap S o own e) isk sc room fun b h3 sb set3 => wpAny_pure ⟨plainId_quiet PyProof.Rows.F.plain_set_update_loop _, ?_⟩
    refine ih (i + 1) _ (by omega) (W.frame _ s2 _ _ st2 (Nat.le_succ _) fun b hb o e => (sb.2 b fun z => apart (z ▸ hb)).trans e) ?_ (Moved.trans W.gtrans (Moved.trans W.gtrans mv (m2.mono wide)) ⟨fun b o hb e => (sb.2 b fun z => hb (z ▸ .head _)).trans e, W.grefl _, rfl, rfl, Nat.le_succ _⟩)
    rw [List.take_add_one, hk, Option.toList_some, List.foldl_append]
    exact set3
/-! ### set(v) -/
/-- what set(v) wants of v's iterator: where it stands, what it reads, what it turns -/
structure Feeds (P : Program) (w : World) (v : Value) (ks : List K) (knd : KeyKind P w K) (ok : Heap → Prop) : Prop where
  keep : ∀ h h', ok h → (∀ b o, h.get? b = some o → h'.get? b = some o) → ok h'
  ty : ∃ T, (∀ s : Shared, ok s.heap → s.TypeIs v T) ∧ isSubtype (.type T) (.type "set") = pure false ∧ isSubtype (.type T) (.type "frozenset") = pure false ∧ (Value.type T == Value.type "dict") = false
  iter : ∀ (A : Around) (s : Shared) (S : Addr) (Q : Value → Shared → Prop) (E : Value → Shared → Prop), A.handled = none → ok s.heap → S < s.heap.objs.size → (∀ b, v = .ref b → S ≠ b) →
    (∀ I fp h' Pv St, (∀ b o, s.heap.get? b = some o → h'.get? b = some o) → WalksS P w A.in1 I fp [I] (fun a b => b = a) ks.length Pv St → S ∉ fp → s.heap.objs.size ≤ I → Keyed knd ks Pv → St 0 { s with heap := h' } → Q (.ref I) { s with heap := h' }) → wpAny (model P w) A (pyIter v) Q E s
def setO (w : World) : Obj := { cls := .type "set", dict := none, data := .set #[] 0 (.fresh 0 0 (!w.params.followText "set-order")) }
theorem setO_at {h : Heap} (e : h.get? a = some (setO w)) : SetL (K := K) knd h a [] := by
  refine ⟨#[], _, [], ⟨_, 0, e, ⟨rfl, rfl, rfl⟩, rfl⟩, ⟨by rfl, List.Pairwise.nil, ?_⟩, fun e he => by simp at he, by decide, .nil, .nil⟩
  cases q : w.params.followText "set-order"
  · exact .inr rfl
  · exact .inl rfl
theorem set_init {v : Value} {ks : List K} {ok : Heap → Prop} (F : Feeds P w v ks knd ok) (hh : A.handled = none) (hok : ok s.heap) (few : ks.length + 1 < scanBound) (here : (s.heap.push (setO w)).get? s.heap.objs.size = some (setO w))
    (isSet : Shared.TypeIs { s with heap := s.heap.push (setO w) } (.ref s.heap.objs.size) "set") :
    codeAny (model P w) A.in1 (.call (.builtin "set.__init__") ⟨[.ref s.heap.objs.size, v], []⟩) (wants (fun r s2 => r = .none ∧ ∃ h' tk, s2 = { s with heap := h', toks := tk } ∧ SetL knd h' s.heap.objs.size (ks.foldl addK []) ∧ ∀ b o, s.heap.get? b = some o → h'.get? b = some o) E) { s with heap := s.heap.push (setO w) } := by
  refine codeAny_call_builtin PySem.F.called_set.init.plain PySem.F.entry_set_init (check_set_init_1 isSet ?_)
  obtain ⟨T, ty, noSet, noFrozen, noDict⟩ := F.ty
  have ok1 := F.keep _ (s.heap.push (setO w)) hok fun b o e => Heap.get?_push_of_some _ e
  have vT : Shared.TypeIs { s with heap := s.heap.push (setO w) } v T := ty _ ok1
  have here' := here
  unfold setO at here'
  unfold Builtin.«set.__init__» noKeywords Builtin.Frozenset.updateFrom
  generalize it : pyIter = goes
  wp_walk
  subst it
  have lt : s.heap.objs.size < (s.heap.push (setO w)).objs.size := by rw [Heap.size_push]; exact Nat.lt_succ_self _
  have off : ∀ b, v = .ref b → s.heap.objs.size ≠ b := fun b e => by
    obtain ⟨o, ho, _⟩ := e ▸ ty s hok
    exact Nat.ne_of_gt (Heap.lt_size ho)
  refine F.iter _ { s with heap := s.heap.push (setO w) } s.heap.objs.size _ _ hh ok1 lt off fun I fp h' Pv St kept W apart newI kd st => ?_
  refine wpAny_bind (wpAny_runValue ?_)
  refine loop_sets (s := { s with heap := h' }) W apart kd few (fun s' set mv => ?_) ks.length 0 _ (Nat.zero_add _) st (setO_at (kept _ _ here)) ⟨fun _ _ _ e => e, rfl, rfl, rfl, Nat.le_refl _⟩
  have es : s' = { s with heap := s'.heap, toks := s'.toks } := by
    obtain ⟨_, g, d, o, _⟩ := mv
    have g : s'.gens = s.gens := g
    have d : s'.drawn = s.drawn := d
    have o : s'.os = s.os := o
    cases s'
    cases s
    cases g
    cases d
    cases o
    rfl
  refine wpAny_pure (wpAny_pure ⟨rfl, s'.heap, s'.toks, es, set, fun b o e => ?_⟩)
  have lb := Heap.lt_size e
  refine mv.heap b o (fun z => ?_) (kept b o (Heap.get?_push_of_some _ e))
  rcases List.mem_cons.mp z with z | z
  · exact Nat.ne_of_lt lb z
  · rw [List.mem_singleton.mp z] at lb
    exact absurd (Nat.lt_trans lb lt) (Nat.not_lt.mpr newI)
theorem call_set {v : Value} {ks : List K} {ok : Heap → Prop} {Q : Value → Shared → Prop} (F : Feeds P w v ks knd ok) (hh : A.handled = none) (hok : ok s.heap) (few : ks.length + 1 < scanBound)
    (q : ∀ h' tk, SetL knd h' s.heap.objs.size (ks.foldl addK []) → (∀ b o, s.heap.get? b = some o → h'.get? b = some o) → Q (.ref s.heap.objs.size) { s with heap := h', toks := tk }) : wpAny (model P w) A (call (.type "set") [v]) Q E s := by
  obtain ⟨c, tl, line⟩ := PySem.F.called_set.mro
  have made := PySem.F.called_set.made
  have selfs := PySem.F.called_set.sub
  have plain1 := PySem.F.called_set.notType
  have plain2 := PySem.F.called_set.canCreate
  have form := PySem.F.typeCall_set_1 v
  refine wpAny_call (codeAny_of_tree ?_)
  show wpAny _ _ (callAny (.type "set") _) _ _ _
  refine wpAny_pure ⟨Code.quiet_builtin _ (by decide +kernel), codeAny_builtin PySem.F.entry_type_call ?_⟩
  rw [Around.under_plain (weight_type_call_type "set" [v] []) rfl]
  repeat (any_goals (first | assumption | wp_step))
  have made1 : codeAny (model P w) A.in1 (.call (.builtin "set.__new__") ⟨[.type "set", v], []⟩) (wants (fun o s1 => o = .ref s.heap.objs.size ∧ s1 = { s with heap := s.heap.push (setO w) }) E) s := code_set_led1 v ⟨rfl, rfl⟩
  refine codeAny_mono made1 fun r s1 hr => ?_
  rcases r with e | fl
  · exact hr
  cases fl with
  | ret obj =>
    obtain ⟨eo, es⟩ := hr
    subst eo es
    have here : (s.heap.push (setO w)).get? s.heap.objs.size = some (setO w) := Heap.get?_push_size _ rfl
    have isSet : Shared.TypeIs { s with heap := s.heap.push (setO w) } (.ref s.heap.objs.size) "set" := ⟨_, here, rfl⟩
    have look := PySem.F.called_set.init.lookup
    have bind := PySem.F.called_set.init.bind (.ref s.heap.objs.size)
    dsimp only
    repeat (any_goals (first | assumption | wp_step))
    refine codeAny_mono (set_init (E := E) F hh hok few here isSet) fun r s2 hr2 => ?_
    rcases r with e | fl2
    · exact hr2
    cases fl2 with
    | ret r =>
      obtain ⟨er, h', tk, e2, set, kept⟩ := hr2
      subst er e2
      dsimp only
      refine wpAny_pure ?_
      dsimp only
      rw [if_neg (by decide)]
      exact wpAny_pure (q h' tk set kept)
    | _ => exact hr2.elim
  | _ => exact hr.elim
end
end CF
/-! CFSet2 -/
/-! len(set(..)) and sorted(set(..)) of texts, as expressions. -/
namespace CF
open PySem PySem.Spec L2
section
variable {P : Program} {w : World} {K : Type} [DecidableEq K] {knd : KeyKind P w K}
/-- items that are keys, place by place -/
def ItemsK (knd : KeyKind P w K) (ks : List K) (items : Array Value) : Prop := items.size = ks.length ∧ Keyed knd ks (fun i v => items[i]? = some v)
theorem feeds_tup {l : Addr} {items : Array Value} {ks : List K} (h : ItemsK knd ks items) : Feeds P w (.ref l) ks knd (fun hp => hp.IsTuple l items) where
  keep := fun h h' ⟨o, ho, r⟩ k => ⟨o, k l o ho, r⟩
  ty := ⟨"tuple", fun s hok => hok.typeIs, PySem.F.sub_tuple_set, PySem.F.sub_tuple_frozenset, by decide⟩
  iter := fun A s S Q E hh hok lt off k => by
    have ll : l < s.heap.objs.size := by obtain ⟨o, ho, _⟩ := hok; exact Heap.lt_size ho
    have W := (Walks.tuple (prog := P) (w := w) (A := A.in1) hh s.heap.objs.size l (Nat.ne_of_lt ll) items).toS
    rw [h.1] at W
    refine wpAny_pyIter_tuple hok (k s.heap.objs.size _ _ _ _ (fun b o e => Heap.get?_push_of_some _ e) W ?_ (Nat.le_refl _) h.2 ⟨⟨_, Heap.get?_push_size _ rfl, rfl, rfl⟩, hok.push _⟩)
    simp only [List.mem_cons, List.not_mem_nil, or_false, not_or]
    exact ⟨Nat.ne_of_lt lt, off l rfl⟩
theorem feeds_lst {l : Addr} {items : Array Value} {ks : List K} (h : ItemsK knd ks items) : Feeds P w (.ref l) ks knd (fun hp => hp.IsList l items) where
  keep := fun h h' ⟨o, ho, r⟩ k => ⟨o, k l o ho, r⟩
  ty := ⟨"list", fun s hok => hok.typeIs, PySem.F.sub_list_set, PySem.F.sub_list_frozenset, by decide⟩
  iter := fun A s S Q E hh hok lt off k => by
    have ll : l < s.heap.objs.size := by obtain ⟨o, ho, _⟩ := hok; exact Heap.lt_size ho
    have W := (Walks.list (prog := P) (w := w) (A := A.in1) hh s.heap.objs.size l (Nat.ne_of_lt ll) items).toS
    rw [h.1] at W
    refine wpAny_pyIter_list hok (k s.heap.objs.size _ _ _ _ (fun b o e => Heap.get?_push_of_some _ e) W ?_ (Nat.le_refl _) h.2 ⟨⟨_, Heap.get?_push_size _ rfl, rfl, rfl⟩, hok.push _⟩)
    simp only [List.mem_cons, List.not_mem_nil, or_false, not_or]
    exact ⟨Nat.ne_of_lt lt, off l rfl⟩
/-! ### which are met first -/
def dedupK : List K → List K
  | [] => []
  | x :: r => x :: (dedupK r).filter fun y => decide (y ≠ x)
theorem foldK : ∀ (l acc : List K), l.foldl addK acc = acc ++ (dedupK l).filter fun y => decide (y ∉ acc)
  | [], acc => by simp [dedupK]
  | x :: r, acc => by
    rw [List.foldl_cons, foldK r, show dedupK (x :: r) = x :: (dedupK r).filter (fun y => decide (y ≠ x)) from rfl]
    unfold addK
    by_cases hx : x ∈ acc
    · rw [if_pos hx, List.filter_cons_of_neg (by simpa using hx), List.filter_filter]
      congr 1
      refine List.filter_congr fun y _ => ?_
      by_cases hy : y ∈ acc
      · simp [hy]
      · have : y ≠ x := fun e => hy (e ▸ hx)
        simp [hy, this]
    · rw [if_neg hx, List.filter_cons_of_pos (by simpa using hx), List.filter_filter, List.append_assoc, List.singleton_append]
      congr 2
      refine List.filter_congr fun y _ => ?_
      simp [List.mem_append]
theorem foldK0 (l : List K) : l.foldl addK [] = dedupK l := by
  rw [foldK]; simp
theorem dedupK_map {f : List Nat → K} (inj : ∀ a b, f a = f b → a = b) : ∀ ws : List (List Nat), dedupK (ws.map f) = (dedupN ws).map f
  | [] => rfl
  | x :: r => by
    show f x :: (dedupK (r.map f)).filter (fun y => decide (y ≠ f x)) = f x :: ((dedupN r).filter fun y => decide (y ≠ x)).map f
    rw [dedupK_map inj r, List.filter_map]
    congr 2
    refine List.filter_congr fun y _ => ?_
    by_cases e : y = x
    · simp [e]
    · have : f y ≠ f x := fun z => e (inj _ _ z)
      simp [e, this]
end
def keyT (w : List Nat) : Key := .inr (toS w)
theorem keyT_inj (a b : List Nat) (h : keyT a = keyT b) : a = b := toS_inj.mp (Sum.inr.inj h)
/-- texts as they stand -/
theorem items_texts {P : Program} {w : World} {g : Gh} {vs : List V} {its : List Value} {ws : List (List Nat)} (r : Vals vs its) (p : RVs g vs (ws.map D.str)) : ItemsK (mixKind P w) (ws.map keyT) its.toArray := by
  have len := pairedLen p
  refine ⟨by rw [List.size_toArray, ← r.length, len, List.length_map, List.length_map], fun i v h => ?_⟩
  have h : its[i]? = some v := by simpa using h
  have hi : i < vs.length := by rw [r.length]; exact (List.getElem?_eq_some_iff.mp h).1
  rw [List.length_map] at len
  have hi2 : i < ws.length := by omega
  obtain ⟨x, hx, q⟩ := pairedGet p (i := i) (y := D.str ws[i]) (by simp [hi2])
  obtain ⟨u, hu, rv⟩ := r.get hx
  rw [h] at hu
  cases hu
  rw [q.str_inv.1] at rv
  refine ⟨keyT ws[i], by simp [hi2], kV_is (k := keyT ws[i]) rv, ?_⟩
  obtain ⟨tk, et⟩ := rv
  rw [et]; rfl
/-! ### sorted -/
/-- the text of an entry -/
def RT1 (v : Value) (d : D) : Prop := ∃ z tk, v = Value.str (toS z) tk ∧ d = .str z
theorem toS_of (x : Str) : toS x.cps.toList = x := by cases x; simp [toS]
section
variable {P : Program} {w : World} {A : Around} {E : Value → Shared → Prop} {s : Shared} {a : Addr}
theorem is_text {z : List Nat} {v : Value} (h : (mixKind P w).is (keyT z) v = true) : ∃ tk, v = Value.str (toS z) tk := by
  rcases keyIs_shape (show keyIs (keyT z) v = true from h) with ⟨i, t, e, _⟩ | ⟨x, t, e, ev⟩
  · cases e
  · cases e
    exact ⟨t, ev⟩
theorem entries_texts : ∀ {es : List (Int × Value)} {zs : List (List Nat)}, Paired (fun e k => (mixKind P w).is k e.2 = true) es (zs.map keyT) → Paired RT1 (es.map (·.2)) (zs.map D.str)
  | [], [], _ => .nil
  | [], _ :: _, h => by cases h
  | _ :: _, [], h => by cases h
  | e :: es, z :: zs, h => by
    cases h with
    | cons i t =>
      obtain ⟨tk, ev⟩ := is_text i
      exact .cons ⟨z, tk, ev, rfl⟩ (entries_texts t)
theorem paired_flip {α β : Type} {F : α → β → Prop} : ∀ {a : List α} {b : List β}, Paired F a b → Paired (fun y x => F x y) b a
  | _, _, .nil => .nil
  | _, _, .cons h t => .cons h (paired_flip t)
theorem each_is {α β : Type} {F : α → β → Prop} : ∀ {a : List α} {b : List β}, Paired F a b → PySem.W.EachIs F a b
  | _, _, .nil => .nil
  | _, _, .cons h t => .cons h (each_is t)
theorem texts_all : ∀ {vs : List Value} {l : List D}, Paired RT1 vs l → l.all isStr = true
  | _, _, .nil => rfl
  | _, _, .cons ⟨z, tk, _, e⟩ t => by rw [e, List.all_cons, texts_all t]; rfl
theorem texts_read {h : Heap} {b : Addr} : ∀ {vs : List Value} {l : List D}, Paired RT1 vs l → PySem.W.EachIs (fun v d => ∃ as, Reads h v (toPy d) as ∧ b ∉ as) vs l
  | _, _, .nil => .nil
  | _, _, .cons ⟨z, tk, ev, ed⟩ t => .cons ⟨[], by rw [ev, ed]; exact .str _ _, by simp⟩ (texts_read t)
theorem sorted_texts {zs : List (List Nat)} {Q : Value → Shared → Prop} (S : SetL (mixKind P w) s.heap a (zs.map keyT)) (hh : A.handled = none) (hu : A.units + 100 < cLine)
    (q : ∀ s' p out c, (∀ b o, s.heap.get? b = some o → s'.heap.get? b = some o) → s'.gens = s.gens → s'.os = s.os → s.heap.objs.size ≤ p → s'.heap.get? p = some (PyProof.Rows.seqObj "list" (List.toArray out) c) → PySem.W.EachIs RT1 out (sortBy ltD (zs.map D.str)) → out.length ≤ sizeLine → Q (.ref p) s') :
    wpAny (model P w) A (call (.builtin "sorted") [.ref a]) Q E s := by
  obtain ⟨es, t, kk, ⟨o, ep, ho, ex, hd⟩, g, el, few, pr, pm⟩ := S
  obtain ⟨es', pr', pe⟩ := paired_perm pm.symm (paired_flip pr)
  have texts := entries_texts (P := P) (w := w) (paired_flip pr')
  refine Calls.call_function_entry PyProof.Rows.kind_sorted PyProof.Rows.plain_sorted PyProof.Rows.entry_sorted (PyProof.Rows.args_sorted1 _) ?_
  unfold Builtin.«sorted»
  refine wpAny_bind (m := checkCount "sorted" 1 1 _) (wpAny_pure (wpAny_bind (collect_set hh ⟨o, ho, ex.1, hd⟩ g.fits few g.ris g.led fun s1 vs keep grow gens os pv => ?_)))
  obtain ⟨bs, pb, perm⟩ := paired_perm (pv.trans (pe.symm.map (·.2))) texts
  have str := texts_all pb
  have len : vs.length = bs.length := paired_size pb
  have room : bs.length ≤ sizeLine := by
    rw [← len, pv.length_eq, List.length_map, Array.length_toList]
    exact fits_of_scanBound few
  refine wpAny_bind (wpAny_newList ?_ (by rw [len]; exact room))
  have at_ : (s1.heap.push (PyProof.Rows.seqObj "list" vs.toArray 0)).get? s1.heap.objs.size = some (PyProof.Rows.seqObj "list" vs.toArray 0) := Heap.get?_push_size _ rfl
  refine wpAny_bind (wpAny_holding (PySem.W.list_sort_data (s := { s1 with heap := s1.heap.push (PyProof.Rows.seqObj "list" vs.toArray 0) }) (R := RT1) (enc := toPy) at_ (each_is pb) (texts_read pb) (allAlike_of (sortOk_strs str)) (sortable_of (sortOk_strs str)) room (fun b hb => ?_) fun out eqn eo => ?_))
  · have flat : (toPy b).depth ≤ 0 := dep_le 0 b (by
      have q := List.all_eq_true.mp str b hb
      cases b <;> first | rfl | cases q)
    show A.in1.units + 1 + _ < _
    have up : A.in1.units ≤ A.units + 20 := by
      first | exact Nat.le_add_right _ _ | (show A.units + _ ≤ _; omega)
    omega
  · rw [sort_data (sortOk_strs str), sort_perm str perm] at eo
    obtain ⟨c, hc⟩ := PyProof.Rows.sortedHeap_at (vs := vs) (out := out.toArray) at_
    refine wpAny_pure ⟨_, rfl, q _ s1.heap.objs.size out c (fun b u e => ?_) gens os grow hc eo (by rw [eqn]; exact room)⟩
    have old := keep b u e
    have lt := Heap.lt_size old
    have far := PyProof.Rows.sortedHeap_old (h := s1.heap.push (PyProof.Rows.seqObj "list" vs.toArray 0)) (a := s1.heap.objs.size) (vs := vs) (out := out.toArray) (b := b) (Nat.ne_of_lt lt) (by rw [Heap.size_push]; exact Nat.lt_succ_of_lt lt)
    exact far.trans (Heap.get?_push_of_some _ old)
end
/-! ### as expressions -/
section
variable {X : Cx} {W : Wld} {n : Nat} {g0 : Gh} {H0 : Hp} {Wx : WX} {env : Env} {σ σ' : L2.St} {st : Sto} {g : Gh} {H : Hp} {pins : List (Addr × Obj)} {s : Shared} {u : Value} {x : V} {d : D} {l : List D}
/-- set(..) of texts -/
theorem run_set (xw : XW X W) (hc : X.calm = true) (I : Inv X pins σ' H s) (ru : RelV x u) (si : SI W g0 H0 env st g σ H) (rx : RT W g H0 env σ x d) (e : itemsOf st d = some l) (hs : l.all isStr = true) (hz : l.length < 4000) {Q : Value → Shared → Prop} {E : Value → Shared → Prop}
    (q : ∀ ws h' tk, l = ws.map D.str → (∀ w ∈ ws, okS w) → SetL (mixKind X.prog X.w) h' s.heap.objs.size ((dedupN ws).map keyT) → Inv X pins σ' H { s with heap := h', toks := tk } → Q (.ref s.heap.objs.size) { s with heap := h', toks := tk }) :
    wpAny (model X.prog X.w) X.A (call (.type "set") [u]) Q E s := by
  obtain ⟨a, vs, ex, hq, rv⟩ := si.items xw.ok rx e
  subst ex
  cases (show u = Value.ref a from ru)
  obtain ⟨ws, ew⟩ := strs_of hs
  subst ew
  have ok := (rvs_strs rv).2
  have few : (ws.map keyT).length + 1 < scanBound := by
    rw [List.length_map] at hz ⊢
    exact Nat.lt_trans (Nat.succ_lt_succ hz) (by decide)
  have fin : ∀ h' tk, SetL (mixKind X.prog X.w) h' s.heap.objs.size ((ws.map keyT).foldl addK []) → (∀ b o, s.heap.get? b = some o → h'.get? b = some o) → Q (.ref s.heap.objs.size) { s with heap := h', toks := tk } := fun h' tk S keep => by
    rw [foldK0, dedupK_map keyT_inj] at S
    exact q ws h' tk rfl ok S (I.kept keep)
  have hd := I.ok.hd hc
  rcases hq with hq | hq
  · rw [← xw.K] at hq
    obtain ⟨its, r, pl, _⟩ := I.tuple hq
    exact call_set (feeds_tup (items_texts r rv)) hd pl few fin
  · obtain ⟨its, r, pl, _⟩ := I.list (a := a) (xs := vs) (.of hq)
    exact call_set (feeds_lst (items_texts r rv)) hd pl.isList few fin
variable {a : E} {ea : Expr} {p p2 q pos : Pos}
/-- name(set(..)): the set is thrown away behind the call -/
theorem pe_over {x : Str} {id : String} {m : Env → Sto → R (List D)} (xw : XW X W) (hc : X.calm = true) (hb : bootBuiltins x = some (.builtin id)) (hn : x ≠ "__name__") (hdb : (x == ("__debug__" : Str)) = false) (hg : Gl X x) (hm : X.mg x = none) (hg2 : Gl X "set") (hm2 : X.mg "set" = none)
    (ha : PA X [ea] (tMAT W g0 H0 Wx m)) (na : starEach [ea] X.env = (false, eval ea X.env) :: starEach [] X.env) {t : TE}
    (k : ∀ σ H Q, t σ H Q → ∃ env st g, SI W g0 H0 env st g σ H ∧ Aft W g0 H0 Wx env σ g (m env st) (fun ds st' g' H' => SI W g0 H0 env st' g' σ H' → ∃ d l, ds = [d] ∧ itemsOf st' d = some l ∧ l.all isStr = true ∧ l.length < 4000 ∧ ∀ pins s ws h' tk, Inv X pins σ H' s → l = ws.map D.str → (∀ w ∈ ws, okS w) →
      SetL (mixKind X.prog X.w) h' s.heap.objs.size ((dedupN ws).map keyT) → Inv X pins σ H' { s with heap := h', toks := tk } → wpAny (model X.prog X.w) X.A (call (.builtin id) [.ref s.heap.objs.size]) (EP X pins σ Q) X.xe { s with heap := h', toks := tk })) :
    PE X (.Call (.Name x p) [.Call (.Name "set" p2) [ea] [] q] [] pos) t := by
  refine ⟨fun pins s σ H Q I h => PyProof.Rows.Call_ (ld_blt I hg hm hb (PyProof.Rows.callWith_builtin1 (PyProof.Rows.args_cons (PyProof.Rows.Call_ (ld_blt I hg2 hm2 (show bootBuiltins "set" = some (.type "set") from by decide +kernel) ?_ (by decide +kernel) (by decide +kernel))) rfl) rfl rfl) hn hdb)⟩
  obtain ⟨env, st, g, si, af⟩ := k σ H Q h
  refine PyProof.Rows.callWith_type1 (thn (ha.run q pins s σ H (fun xs H1 => ∃ x d st1 g1 l, xs = [x] ∧ SI W g0 H0 env st1 g1 σ H1 ∧ RT W g1 H0 env σ x d ∧ itemsOf st1 d = some l ∧ l.all isStr = true ∧ l.length < 4000 ∧ ∀ pins s ws h' tk, Inv X pins σ H1 s → l = ws.map D.str → (∀ w ∈ ws, okS w) →
      SetL (mixKind X.prog X.w) h' s.heap.objs.size ((dedupN ws).map keyT) → Inv X pins σ H1 { s with heap := h', toks := tk } → wpAny (model X.prog X.w) X.A (call (.builtin id) [.ref s.heap.objs.size]) (EP X pins σ Q) X.xe { s with heap := h', toks := tk }) I ?_) fun us s1 ⟨xs, H1, I1, ru, x, d, st1, g1, l, ex, si1, rx, e1, e2, e3, run⟩ => ?_) na rfl
  · refine ⟨env, st, g, si, af.imp fun ds st1 g1 H1 l1 si1 k1 xs rx => ?_⟩
    obtain ⟨d, l, ed, r⟩ := k1 si1
    subst ed
    obtain ⟨x, ex, rx⟩ := p1 rx
    exact ⟨x, d, st1, g1, l, ex, si1, rx, r⟩
  · subst ex
    obtain ⟨u, eu, rv⟩ := vals1 ru
    subst eu
    exact run_set xw hc I1 rv si1 rx e1 e2 e3 fun ws h' tk el ok S J => PyProof.Rows.args_nil (run pins s1 ws h' tk I1 el ok S J)
/-! ### sets of tuples of ints -/
theorem dedupI_mem {z : List Int} : ∀ {ws : List (List Int)}, z ∈ dedupI ws ↔ z ∈ ws
  | [] => Iff.rfl
  | y :: r => by
    show z ∈ y :: (dedupI r).filter (fun x => decide (x ≠ y)) ↔ _
    rw [List.mem_cons, List.mem_cons, List.mem_filter, dedupI_mem, decide_eq_true_eq]
    constructor
    · rintro (h | h)
      · exact .inl h
      · exact .inr h.1
    · rintro (h | h)
      · exact .inl h
      · by_cases e : z = y
        · exact .inl e
        · exact .inr ⟨h, e⟩
theorem dedupI_nodup : ∀ ws : List (List Int), (dedupI ws).Nodup
  | [] => .nil
  | y :: r => by
    refine List.nodup_cons.mpr ⟨fun m => ?_, (dedupI_nodup r).filter _⟩
    have e := (List.mem_filter.mp m).2
    simp at e
theorem rvs_ints {g : Gh} : ∀ {vs : List V} {l : List D} {k : List Int}, RVs g vs l → intsOf l = some k → vs = k.map V.int
  | _, _, _, .nil, e => by cases e; rfl
  | _, _, _, .cons (b := .int i) r t, e => by
    simp only [intsOf, Option.map_eq_some_iff] at e
    obtain ⟨k, hk, e⟩ := e
    subst e
    rw [r.int_inv, rvs_ints t hk]
    rfl
/-- tuples of ints, place by place -/
theorem tups_of (ok : W.Ok0) (si : SI W g0 H0 env st g σ H) : ∀ {vs : List V} {l : List D}, RVs g vs l → l.all isTupI = true → ∃ ks : List (Addr × List Int), vs = (ks.map fun p => V.ref p.1) ∧ ks.map (·.2) = l.map tupI ∧ ∀ p ∈ ks, SqT W.K H p.1 (p.2.map V.int)
  | _, _, .nil, _ => ⟨[], rfl, rfl, fun _ m => nomatch m⟩
  | _, d :: _, .cons r t, h => by
    rw [List.all_cons, Bool.and_eq_true] at h
    obtain ⟨ks, e1, e2, e3⟩ := tups_of ok si t h.2
    have h1 := h.1
    unfold isTupI at h1
    split at h1
    · rename_i l
      cases hk : intsOf l with
      | none => rw [hk] at h1; cases h1
      | some k =>
        obtain ⟨a, xs, e4, e5, e6⟩ := si.tup ok r
        subst e4
        have e7 := rvs_ints e6 hk
        subst e7
        refine ⟨(a, k) :: ks, by rw [e1]; rfl, ?_, fun p m => ?_⟩
        · rw [List.map_cons, List.map_cons, e2]
          congr 1
          show k = (intsOf l).getD []
          rw [hk]
          rfl
        · rcases List.mem_cons.mp m with e | m
          · subst e
            exact e5
          · exact e3 p m
    · cases h1
/-- set(..) of tuples of ints, its size -/
theorem run_setT (xw : XW X W) (hc : X.calm = true) (I : Inv X pins σ' H s) (ru : RelV x u) (si : SI W g0 H0 env st g σ H) (rx : RT W g H0 env σ x d) (e : listOf st d = some l) (hs : l.all isTupI = true) (hz : l.length < 64) {Q : Value → Shared → Prop} {E : Value → Shared → Prop}
    (q : ∀ h' tk o es ep t, h'.get? s.heap.objs.size = some o → o.ExactSet → o.data = .set es ep t → t.fits es.size = true → es.size = (dedupI (l.map tupI)).length → es.size < 64 → Inv X pins σ' H { s with heap := h', toks := tk } → Q (.ref s.heap.objs.size) { s with heap := h', toks := tk }) :
    wpAny (model X.prog X.w) X.A (call (.type "set") [u]) Q E s := by
  obtain ⟨a, vs, ex, hq, rv⟩ := si.list xw.ok rx e
  subst ex
  cases (show u = Value.ref a from ru)
  obtain ⟨ks, e1, e2, e3⟩ := tups_of xw.ok si rv hs
  subst e1
  obtain ⟨its, r, pl, _⟩ := I.list (a := a) (.of hq)
  have room := xw.room
  have len : ks.length = l.length := by
    have z := congrArg List.length e2
    rw [List.length_map, List.length_map] at z
    exact z
  refine call_set_tups (P := X.prog) (w := X.w) ks (I.ok.hd hc) pl.isList (by simpa using refs_of_vals r) (fun p hp => I.isT (by rw [xw.K]; exact e3 p hp)) (by rw [len]; exact hz) (by omega) fun h' tk L es ep t R gt k => ?_
  obtain ⟨o, ho, hx, hd⟩ := R.ob
  have same : (L.map (·.2)).Perm (dedupI (l.map tupI)) := (List.perm_ext_iff_of_nodup R.nd (dedupI_nodup _)).mpr fun z => by
    rw [dedupI_mem, ← e2]
    constructor
    · intro m
      obtain ⟨p, hp, e⟩ := List.mem_map.mp m
      exact List.mem_map.mpr ⟨p, List.mem_of_mem_take (gt.sub p hp), e⟩
    · intro m
      obtain ⟨p, hp, e⟩ := List.mem_map.mp m
      rw [← e]
      exact gt.all p (by rw [List.take_length]; exact hp)
  have size := SetTR.size (s := { s with heap := h', toks := tk }) R
  have few := R.few
  exact q h' tk o es ep t ho hx hd (SetTR.fits (s := { s with heap := h', toks := tk }) R) (by rw [size, ← same.length_eq, List.length_map]) (by omega) (I.kept k)
/-- name(set(..)), set and name as one -/
theorem pe_over2 {x : Str} {id : String} {m : Env → Sto → R (List D)} (hb : bootBuiltins x = some (.builtin id)) (hn : x ≠ "__name__") (hdb : (x == ("__debug__" : Str)) = false) (hg : Gl X x) (hm : X.mg x = none) (hg2 : Gl X "set") (hm2 : X.mg "set" = none)
    (ha : PA X [ea] (tMAT W g0 H0 Wx m)) (na : starEach [ea] X.env = (false, eval ea X.env) :: starEach [] X.env) {t : TE}
    (k : ∀ σ H Q, t σ H Q → ∃ env st g, SI W g0 H0 env st g σ H ∧ Aft W g0 H0 Wx env σ g (m env st) (fun ds st' g' H' => SI W g0 H0 env st' g' σ H' → ∃ d, ds = [d] ∧ ∀ pins s x u, Inv X pins σ H' s → RelV x u → RT W g' H0 env σ x d →
      wpAny (model X.prog X.w) X.A (call (.type "set") [u]) (fun v s' => wpAny (model X.prog X.w) X.A (call (.builtin id) [v]) (EP X pins σ Q) X.xe s') X.xe s)) :
    PE X (.Call (.Name x p) [.Call (.Name "set" p2) [ea] [] q] [] pos) t := by
  refine ⟨fun pins s σ H Q I h => PyProof.Rows.Call_ (ld_blt I hg hm hb (PyProof.Rows.callWith_builtin1 (PyProof.Rows.args_cons (PyProof.Rows.Call_ (ld_blt I hg2 hm2 (show bootBuiltins "set" = some (.type "set") from by decide +kernel) ?_ (by decide +kernel) (by decide +kernel))) rfl) rfl rfl) hn hdb)⟩
  obtain ⟨env, st, g, si, af⟩ := k σ H Q h
  refine PyProof.Rows.callWith_type1 (thn (ha.run q pins s σ H (fun xs H1 => ∃ (x : V) (d : D) (g1 : Gh), xs = [x] ∧ RT W g1 H0 env σ x d ∧ ∀ pins s x u, Inv X pins σ H1 s → RelV x u → RT W g1 H0 env σ x d →
      wpAny (model X.prog X.w) X.A (call (.type "set") [u]) (fun v s' => wpAny (model X.prog X.w) X.A (call (.builtin id) [v]) (EP X pins σ Q) X.xe s') X.xe s) I ?_) fun us s1 ⟨xs, H1, I1, ru, x, d, g1, ex, rx, run⟩ => ?_) na rfl
  · refine ⟨env, st, g, si, af.imp fun ds st1 g1 H1 l1 si1 k1 xs rx => ?_⟩
    obtain ⟨d, ed, r⟩ := k1 si1
    subst ed
    obtain ⟨x, ex, rx⟩ := p1 rx
    exact ⟨x, d, g1, ex, rx, r⟩
  · subst ex
    obtain ⟨u, eu, rv⟩ := vals1 ru
    subst eu
    exact wpAny_mono (run pins s1 x u I1 rv rx) (fun v s' z => PyProof.Rows.args_nil z) fun _ _ z => z
theorem cf_lenS {es : As} (xw : XW X W) (hc : X.calm = true) (hg : Gl X "len") (hm : X.mg "len" = none) (hg2 : Gl X "set") (hm2 : X.mg "set" = none) (ha : PA X [ea] (tMAT W g0 H0 Wx (evTs W.T (callN W.T n) es))) (na : starEach [ea] X.env = (false, eval ea X.env) :: starEach [] X.env) :
    PE X (.Call (.Name "len" p) [.Call (.Name "set" p2) [ea] [] q] [] pos) (tMF W g0 H0 Wx (fun env s => (evTs W.T (callN W.T n) es env s).bind fun ds s => R.of (pLenSet s ds) s)) :=
  pe_over2 (show bootBuiltins "len" = some (.builtin "len") from by decide +kernel) (by decide +kernel) (by decide +kernel) hg hm hg2 hm2 ha na fun σ H Q ⟨env, st, g, si, af⟩ => ⟨env, st, g, si, af.bind.imp fun ds st1 g1 H1 l1 si1 af1 si2 => by
    unfold pLenSet at af1
    split at af1
    · rename_i d
      cases e : itemsOf st1 d with
      | none => rw [e] at af1; exact af1.elim
      | some l =>
        rw [e] at af1
        simp only [Option.bind_some] at af1
        split at af1
        · rename_i c
          simp only [Bool.and_eq_true, decide_eq_true_eq] at c
          refine ⟨d, rfl, fun pins s x u I ru rx => run_set xw hc I ru si1 rx e c.1 c.2 fun ws h' tk el ok S J => ?_⟩
          subst el
          rw [dedup_map, List.length_map] at af1
          obtain ⟨es, t, kk, ⟨o, ep, ho, ex, hd⟩, gd, _, few, pr, pm⟩ := S
          have len : es.size = (dedupN ws).length := by rw [← Array.length_toList, paired_size pr, pm.length_eq, List.length_map]
          exact call_len_set (s := { s with heap := h', toks := tk }) ho ex hd gd.fits (by unfold scanBound at few; omega) ⟨.int (dedupN ws).length, H1, J.tok _, ⟨_, by rw [len]⟩, fin0N si1 af1 rfl⟩
        · cases e2 : listOf st1 d with
          | none => rw [e2] at af1; exact af1.elim
          | some l =>
            rw [e2] at af1
            simp only [Option.bind_some] at af1
            split at af1
            · rename_i c
              simp only [Bool.and_eq_true, decide_eq_true_eq] at c
              refine ⟨d, rfl, fun pins s x u I ru rx => run_setT xw hc I ru si1 rx e2 c.1 c.2 fun h' tk o es ep t ho hx hd hf hz few J => ?_⟩
              exact call_len_set (s := { s with heap := h', toks := tk }) ho hx hd hf (by omega) ⟨.int (dedupI (l.map tupI)).length, H1, J.tok _, ⟨_, by rw [hz]⟩, fin0N si1 af1 rfl⟩
            · exact af1.elim
    · exact af1.elim⟩
theorem each_texts {g : Gh} : ∀ {us : List Value} {l : List D}, PySem.W.EachIs RT1 us l → (∀ z, D.str z ∈ l → okS z) → ∃ vs, Vals vs us ∧ RVs g vs l
  | _, _, .nil, _ => ⟨[], .nil, .nil⟩
  | _, _, .cons ⟨z, tk, ev, ed⟩ t, ok => by
    obtain ⟨vs, h1, h2⟩ := each_texts (g := g) t fun y hy => ok y (.tail _ hy)
    subst ed
    exact ⟨.str (toS z) :: vs, .cons ⟨tk, ev⟩ h1, .cons ⟨rfl, ok z (.head _)⟩ h2⟩
theorem dedupN_sub {z : List Nat} : ∀ {ws : List (List Nat)}, z ∈ dedupN ws → z ∈ ws
  | [], h => h
  | y :: r, h => by
    rcases List.mem_cons.mp h with e | e
    · rw [e]; exact .head _
    · exact .tail _ (dedupN_sub (List.mem_filter.mp e).1)
theorem cf_sortS {es : As} (xw : XW X W) (hc : X.calm = true) (hg : Gl X "sorted") (hm : X.mg "sorted" = none) (hg2 : Gl X "set") (hm2 : X.mg "set" = none) (ha : PA X [ea] (tMAT W g0 H0 Wx (evTs W.T (callN W.T n) es))) (na : starEach [ea] X.env = (false, eval ea X.env) :: starEach [] X.env) :
    PE X (.Call (.Name "sorted" p) [.Call (.Name "set" p2) [ea] [] q] [] pos) (tMF W g0 H0 Wx (fun env s => (evTs W.T (callN W.T n) es env s).bind fun ds s => R.of (pSortedSet s ds) s)) :=
  pe_over xw hc (show bootBuiltins "sorted" = some (.builtin "sorted") from by decide +kernel) (by decide +kernel) (by decide +kernel) hg hm hg2 hm2 ha na fun σ H Q ⟨env, st, g, si, af⟩ => ⟨env, st, g, si, af.bind.imp fun ds st1 g1 H1 l1 si1 af1 si2 => by
    unfold pSortedSet at af1
    split at af1
    · rename_i d
      cases e : itemsOf st1 d with
      | none => rw [e] at af1; exact af1.elim
      | some l =>
        rw [e] at af1
        simp only [Option.bind_some] at af1
        split at af1
        · rename_i c
          simp only [Bool.and_eq_true, decide_eq_true_eq] at c
          refine ⟨d, l, rfl, e, c.1, c.2, fun pins s ws h' tk I el ok S J => ?_⟩
          subst el
          rw [dedup_map] at af1
          have hr := xw.room
          refine sorted_texts (s := { s with heap := h', toks := tk }) S (J.ok.hd hc) (by omega) fun s' pp out c k1 g2 o2 hp hat each few => ?_
          have str : ((dedupN ws).map D.str).all isStr = true := by rw [List.all_map]; exact List.all_eq_true.mpr fun _ _ => rfl
          obtain ⟨vs, rv, rd⟩ := each_texts (g := g1) each fun z hz => by
            rw [← sort_data (sortOk_strs str)] at hz
            obtain ⟨y, hy, ey⟩ := List.mem_map.mp ((List.mergeSort_perm _ _).mem_iff.mp hz)
            have e2 : y = z := by injection ey
            exact ok z (dedupN_sub (e2 ▸ hy))
          have free : H1 pp = none := J.hok.fresh hp
          have laid : Inv X pins σ (upd H1 pp (.lst vs)) { ({ s with heap := h', toks := tk } : Shared) with heap := s'.heap, gens := s'.gens, drawn := s'.drawn, toks := s'.toks } :=
            J.call (ch := []) (Un.laid k1 hp free) (J.hok.laid k1 hp ⟨by rw [rv.length]; exact few, out, c, rv, hat⟩) (by rw [show s'.gens = s.gens from g2]; exact J.bare) (fun _ z => nomatch z)
          have same : s' = { ({ s with heap := h', toks := tk } : Shared) with heap := s'.heap, gens := s'.gens, drawn := s'.drawn, toks := s'.toks } := by
            have o3 : s'.os = s.os := o2
            cases s'
            cases s
            cases o3
            rfl
          rw [same]
          exact ⟨.ref pp, _, laid, rfl, finLN si1 af1 rd pp free⟩
        · exact af1.elim
    · exact af1.elim⟩
end
end CF
/-! CFZip -/
/-! dict(zip(..)) over two iterators of any kind. -/
namespace CF
open PySem PySem.Spec L2
section
variable {prog : Program} {w : World} {A : Around} {E : Value → Shared → Prop} {s : Shared} {z TI TO T i1 i2 : Addr} {fp1 fp2 : List Addr} {n1 n2 i : Nat} {P1 P2 : Nat → Value → Prop} {St1 St2 : Nat → Heap → Prop} {f : Bool} {oT : Obj}
/-- the next pair, while the pair that was given out before still stands -/
theorem held_item {Q : Value → Shared → Prop} (S : ZipSep2 z TI TO i1 i2 fp1 fp2) (D1 : Draws prog w A i1 fp1 n1 P1 St1) (D2 : Draws prog w A i2 fp2 n2 P2 St2) (hz : IsZipHeld s.heap z TI TO T f) (hT : s.heap.get? T = some oT)
    (hTI : IsPair s.heap TI (.ref i1) (.ref i2)) (st1 : St1 i s.heap) (st2 : St2 i s.heap) (lt1 : i < n1) (lt2 : i < n2)
    (q : ∀ x y h' tk p, P1 i x → P2 i y → IsZipHeld h' z TI TO T true → St1 (i + 1) h' → St2 (i + 1) h' → IsPair h' p x y → (∀ c o, c ≠ z → c ≠ i1 → c ≠ i2 → s.heap.get? c = some o → h'.get? c = some o) → Q (.ref p) { s with heap := h', toks := tk }) :
    wpAny (model prog w) A (Builtin.«zip.__next__» ⟨[.ref z], []⟩) (fun fin s' => ∃ v, fin = .done (.ret v) ∧ Q v s') E s := by
  unfold Builtin.«zip.__next__»
  refine wpAny_bind (wpAny_pure ?_)
  refine wpAny_bind (wpAny_field hz rfl (x := .bool false) rfl ?_)
  refine wpAny_bind (wpAny_field hz rfl (x := .ref TI) rfl (wpAny_bind (wpAny_seqItems hTI rfl ?_)))
  refine wpAny_bind (wpAny_tupleHeld_zip hz hT fun h1 hz1 sb1 => ?_)
  dsimp only
  rw [if_neg Bool.false_ne_true, ← Array.forIn_toList]
  simp only [List.forIn_cons, List.forIn_nil]
  have s1 := D1.over st1 sb1 S.zf1
  have s2 := D2.over st2 sb1 S.zf2
  -- the first
  refine wpAny_bind (wpAny_bind (wpAny_bind (wpAny_holding (?_ : wpAny _ _ (Builtin.SmallTypes.nextOf (.ref i1) >>= fun x => pure (some x)) _ _ _))))
  refine wpAny_bind (D1.item i { s with heap := h1 } _ _ lt1 s1 fun x h2 tk2 px t1 sb2 => wpAny_pure (wpAny_pure ?_))
  have s2b := D2.over s2 sb2 S.sep1_2
  -- the second
  refine wpAny_bind (wpAny_bind (wpAny_holding (?_ : wpAny _ _ (Builtin.SmallTypes.nextOf (.ref i2) >>= fun x => pure (some x)) _ _ _)))
  refine wpAny_bind (D2.item i { s with heap := h2, toks := tk2 } _ _ lt2 s2b fun y h3 tk3 py t2 sb3 => wpAny_pure (wpAny_pure ?_))
  refine wpAny_pure ?_
  dsimp only
  have keep : ∀ c o, c ≠ z → c ≠ i1 → c ≠ i2 → s.heap.get? c = some o → h3.get? c = some o := fun c o a b d e => (sb3.2 c d).trans ((sb2.2 c b).trans ((sb1.2 c a).trans e))
  have hz3 : IsZipHeld h3 z TI TO T true := (sb3.2 z S.zi2).trans ((sb2.2 z S.zi1).trans hz1)
  have t13 := D1.over t1 sb3 S.sep2_1
  refine wpAny_bind (wpAny_newTuple ?_ (by show 2 ≤ sizeLine; decide))
  refine wpAny_pure ⟨_, rfl, ?_⟩
  have grow : ∀ b o, h3.get? b = some o → (h3.push { cls := .type "tuple", data := .seq #[x, y] }).get? b = some o := fun b o e => Heap.get?_push_of_some _ e
  exact q x y _ tk3 h3.objs.size px py (grow _ _ hz3) (D1.frame _ _ _ t13 fun b _ o e => grow b o e) (D2.frame _ _ _ t2 fun b _ o e => grow b o e) (Heap.get?_push_size _ rfl) fun c o a b d e => grow c o (keep c o a b d e)
/-- the end, in the same state -/
theorem held_end {Q : Fin → Shared → Prop} (S : ZipSep2 z TI TO i1 i2 fp1 fp2) (D1 : Draws prog w A i1 fp1 n1 P1 St1) (D2 : Draws prog w A i2 fp2 n2 P2 St2) (hz : IsZipHeld s.heap z TI TO T f) (hT : s.heap.get? T = some oT)
    (hTI : IsPair s.heap TI (.ref i1) (.ref i2)) (st1 : St1 i s.heap) (st2 : St2 i s.heap) (le1 : i ≤ n1) (le2 : i ≤ n2) (over : i = n1 ∨ i = n2)
    (q : ∀ h' tk e, (∀ c o, c ≠ z → c ≠ i1 → c ≠ i2 → s.heap.get? c = some o → h'.get? c = some o) → (∃ o, h'.get? e = some o ∧ o.cls = .type "StopIteration") → E (.ref e) { s with heap := h', toks := tk }) :
    wpAny (model prog w) A (Builtin.«zip.__next__» ⟨[.ref z], []⟩) Q E s := by
  unfold Builtin.«zip.__next__»
  refine wpAny_bind (wpAny_pure ?_)
  refine wpAny_bind (wpAny_field hz rfl (x := .bool false) rfl ?_)
  refine wpAny_bind (wpAny_field hz rfl (x := .ref TI) rfl (wpAny_bind (wpAny_seqItems hTI rfl ?_)))
  refine wpAny_bind (wpAny_tupleHeld_zip hz hT fun h1 hz1 sb1 => ?_)
  dsimp only
  rw [if_neg Bool.false_ne_true, ← Array.forIn_toList]
  simp only [List.forIn_cons, List.forIn_nil]
  have s1 := D1.over st1 sb1 S.zf1
  have s2 := D2.over st2 sb1 S.zf2
  refine wpAny_bind (wpAny_bind (wpAny_bind (wpAny_holding (?_ : wpAny _ _ (Builtin.SmallTypes.nextOf (.ref i1) >>= fun x => pure (some x)) _ _ _))))
  by_cases e1 : i = n1
  · subst e1
    exact wpAny_bind (D1.done { s with heap := h1 } _ _ s1 fun h2 e ext he => q h2 s.toks e (fun c o a b d ec => ext c o b ((sb1.2 c a).trans ec)) he)
  · have e2 : i = n2 := over.resolve_left e1
    refine wpAny_bind (D1.item i { s with heap := h1 } _ _ (by omega) s1 fun x h2 tk2 px t1 sb2 => wpAny_pure (wpAny_pure ?_))
    have s2b := D2.over s2 sb2 S.sep1_2
    subst e2
    refine wpAny_bind (wpAny_bind (wpAny_holding (?_ : wpAny _ _ (Builtin.SmallTypes.nextOf (.ref i2) >>= fun x => pure (some x)) _ _ _)))
    exact wpAny_bind (D2.done { s with heap := h2, toks := tk2 } _ _ s2b fun h3 e ext he => q h3 tk2 e (fun c o a b d ec => ext c o d ((sb2.2 c b).trans ((sb1.2 c a).trans ec))) he)
theorem next_held {Q : Option Value → Shared → Prop} (S : ZipSep2 z TI TO i1 i2 fp1 fp2) (D1 : Draws prog w A.in1 i1 fp1 n1 P1 St1) (D2 : Draws prog w A.in1 i2 fp2 n2 P2 St2) (hz : IsZipHeld s.heap z TI TO T f) (hT : s.heap.get? T = some oT)
    (hTI : IsPair s.heap TI (.ref i1) (.ref i2)) (st1 : St1 i s.heap) (st2 : St2 i s.heap) (lt1 : i < n1) (lt2 : i < n2)
    (q : ∀ x y h' tk p, P1 i x → P2 i y → IsZipHeld h' z TI TO T true → St1 (i + 1) h' → St2 (i + 1) h' → IsPair h' p x y → (∀ c o, c ≠ z → c ≠ i1 → c ≠ i2 → s.heap.get? c = some o → h'.get? c = some o) → Q (some (.ref p)) { s with heap := h', toks := tk }) :
    wpAny (model prog w) A (pyNext (.ref z)) Q E s := by
  have ty : s.TypeIs (.ref z) "zip" := ⟨_, hz, rfl⟩
  unfold pyNext
  refine wpAny_bind (wpAny_attempt (wpAny_callSpecial?_slot (name := Str.ofString "__next__") ty PySem.F.slot_zip_next (wpAny_call_entry PySem.F.slot_zip_next ty PySem.F.entry_zip_next ?_ (PySem.F.args_zip_next_1 _))))
  exact held_item S D1 D2 hz hT hTI st1 st2 lt1 lt2 fun x y h' tk p a b c d e g k => wpAny_pure (q x y h' tk p a b c d e g k)
theorem next_over {Q : Option Value → Shared → Prop} (S : ZipSep2 z TI TO i1 i2 fp1 fp2) (D1 : Draws prog w A.in1 i1 fp1 n1 P1 St1) (D2 : Draws prog w A.in1 i2 fp2 n2 P2 St2) (hz : IsZipHeld s.heap z TI TO T f) (hT : s.heap.get? T = some oT)
    (hTI : IsPair s.heap TI (.ref i1) (.ref i2)) (st1 : St1 i s.heap) (st2 : St2 i s.heap) (le1 : i ≤ n1) (le2 : i ≤ n2) (over : i = n1 ∨ i = n2)
    (q : ∀ h' tk, (∀ c o, c ≠ z → c ≠ i1 → c ≠ i2 → s.heap.get? c = some o → h'.get? c = some o) → Q none { s with heap := h', toks := tk }) : wpAny (model prog w) A (pyNext (.ref z)) Q E s := by
  have ty : s.TypeIs (.ref z) "zip" := ⟨_, hz, rfl⟩
  unfold pyNext
  refine wpAny_bind (wpAny_attempt (wpAny_callSpecial?_slot (name := Str.ofString "__next__") ty PySem.F.slot_zip_next (wpAny_call_entry PySem.F.slot_zip_next ty PySem.F.entry_zip_next ?_ (PySem.F.args_zip_next_1 _))))
  exact held_end S D1 D2 hz hT hTI st1 st2 le1 le2 over fun h' tk e k ⟨o, ho, hc⟩ => wpAny_bind (wpAny_isInstance (T := "StopIteration") (b := true) ⟨o, ho, hc⟩ isSubtype_stop (wpAny_pure (q h' tk k)))
end
/-- a source of items at it: what it draws, wherever no exception is handled -/
structure Source (prog : Program) (w : World) (it : Addr) (fp : List Addr) (n : Nat) (Pv : Nat → Value → Prop) (St : Nat → Heap → Prop) : Prop where
  mem : it ∈ fp
  draws : ∀ A : Around, A.handled = none → Draws prog w A it fp n Pv St
  there : ∀ i h, St i h → ∀ b ∈ fp, ∃ o, h.get? b = some o
  frame : ∀ i h h', St i h → (∀ b ∈ fp, ∀ o, h.get? b = some o → h'.get? b = some o) → St i h'
theorem src_tup {prog : Program} {w : World} (it t : Addr) (ne : t ≠ it) (items : Array Value) : Source prog w it [it, t] items.size (fun i v => items[i]? = some v) (fun i h => h.IsTupleIter it t i ∧ h.IsTuple t items) where
  mem := .head _
  draws := fun A hh => Draws.tuple hh it t ne items
  there := fun i h ⟨⟨o, ho, _⟩, o2, ho2, _⟩ b hb => by
    rcases List.mem_cons.mp hb with e | e
    · exact ⟨o, e ▸ ho⟩
    · exact ⟨o2, (List.mem_singleton.mp e) ▸ ho2⟩
  frame := fun _ _ _ st k => ⟨st.1.at fun o e => k it (.head _) o e, st.2.at fun o e => k t (.tail _ (.head _)) o e⟩
theorem src_lst {prog : Program} {w : World} (it t : Addr) (ne : t ≠ it) (items : Array Value) : Source prog w it [it, t] items.size (fun i v => items[i]? = some v) (fun i h => h.IsListIter it t i ∧ h.IsList t items) where
  mem := .head _
  draws := fun A hh => Draws.list hh it t ne items
  there := fun i h ⟨⟨o, ho, _⟩, o2, ho2, _⟩ b hb => by
    rcases List.mem_cons.mp hb with e | e
    · exact ⟨o, e ▸ ho⟩
    · exact ⟨o2, (List.mem_singleton.mp e) ▸ ho2⟩
  frame := fun _ _ _ st k => ⟨st.1.at fun o e => k it (.head _) o e, st.2.at fun o e => k t (.tail _ (.head _)) o e⟩
/-- zip(..) as the pairs of a dict -/
theorem zip_pairs {prog : Program} {w : World} {z TI TO i1 i2 : Addr} {fp1 fp2 : List Addr} {n1 n2 : Nat} {P1 P2 : Nat → Value → Prop} {St1 St2 : Nat → Heap → Prop} (S : ZipSep2 z TI TO i1 i2 fp1 fp2) (S1 : Source prog w i1 fp1 n1 P1 St1) (S2 : Source prog w i2 fp2 n2 P2 St2) :
    PairArg prog w "zip" z (z :: TI :: TO :: (fp1 ++ fp2)) [z, TO, i1, i2] (min n1 n2) (fun i k v => P1 i k ∧ P2 i v) (fun h => IsZip h z TI TO .none ∧ IsPair h TI (.ref i1) (.ref i2) ∧ (∃ a b, IsPair h TO a b) ∧ St1 0 h ∧ St2 0 h) where
  type := fun s ok => ⟨_, ok.1, rfl⟩
  notDict := by decide
  keep := fun h h' ⟨a, b, ⟨x, y, c⟩, d, e⟩ k => ⟨k _ _ a, k _ _ b, ⟨x, y, k _ _ c⟩, S1.frame _ _ _ d fun b _ o q => k b o q, S2.frame _ _ _ e fun b _ o q => k b o q⟩
  there := fun h ⟨a, b, ⟨x, y, c⟩, d, e⟩ v hv => by
    rcases List.mem_cons.mp hv with q | hv
    · exact ⟨_, q ▸ a⟩
    rcases List.mem_cons.mp hv with q | hv
    · exact ⟨_, q ▸ b⟩
    rcases List.mem_cons.mp hv with q | hv
    · exact ⟨_, q ▸ c⟩
    rcases List.mem_append.mp hv with q | q
    · exact S1.there _ _ d v q
    · exact S2.there _ _ e v q
  sub := fun b hb => by
    have m1 := S1.mem
    have m2 := S2.mem
    simp only [List.mem_cons, List.not_mem_nil, or_false] at hb
    simp only [List.mem_cons, List.mem_append]
    rcases hb with e | e | e | e <;> subst e
    · exact .inl rfl
    · exact .inr (.inr (.inl rfl))
    · exact .inr (.inr (.inr (.inl m1)))
    · exact .inr (.inr (.inr (.inr m2)))
  noKeys := fun A s Q E hA ok h => getAttrOr_miss_zip ok.1 rfl rfl rfl zip_no_keys (by decide +kernel) hA h
  iter := fun A s d Q E hA ⟨a, b, ⟨x0, y0, c⟩, st1, st2⟩ lt off k => by
    have m1 := S1.mem
    have m2 := S2.mem
    simp only [List.mem_cons, List.mem_append, not_or] at off
    obtain ⟨dz, dTI, dTO, df1, df2⟩ := off
    have di1 : d ≠ i1 := fun e => df1 (e ▸ m1)
    have di2 : d ≠ i2 := fun e => df2 (e ▸ m2)
    have hin : A.in1.handled = none := hA
    have D1 := S1.draws A.in1 hin
    have D2 := S2.draws A.in1 hin
    refine wpAny_pyIter_zip a (k z [z, TO, i1, i2] (fun i h => IsPair h TI (.ref i1) (.ref i2) ∧ St1 i h ∧ St2 i h ∧ ((IsZip h z TI TO .none ∧ ∃ x y, IsPair h TO x y) ∨ ∃ T f oT, IsZipHeld h z TI TO T f ∧ h.get? T = some oT ∧ T ≠ z ∧ T ≠ i1 ∧ T ≠ i2 ∧ T ≠ d)) s.heap s.toks ?_ ⟨b, st1, st2, .inl ⟨a, x0, y0, c⟩⟩ (fun _ _ e => e) fun b hb => .inl hb)
    refine ⟨?_, ?_, ?_, ?_⟩
    · simp only [List.mem_cons, List.not_mem_nil, or_false, not_or]
      exact ⟨dz, dTO, di1, di2⟩
    · rintro i h h' ⟨b, u1, u2, r⟩ kp
      refine ⟨kp _ _ (Ne.symm dTI) b, S1.frame _ _ _ u1 fun v hv o e => kp v o (fun q => df1 (q ▸ hv)) e, S2.frame _ _ _ u2 fun v hv o e => kp v o (fun q => df2 (q ▸ hv)) e, ?_⟩
      rcases r with ⟨a, x, y, c⟩ | ⟨T, f, oT, a, hT, r1, r2, r3, r4⟩
      · exact .inl ⟨kp _ _ (Ne.symm dz) a, x, y, kp _ _ (Ne.symm dTO) c⟩
      · exact .inr ⟨T, f, oT, kp _ _ (Ne.symm dz) a, kp _ _ r4 hT, r1, r2, r3, r4⟩
    · rintro i s1 Q1 E1 hi ⟨b, u1, u2, r⟩ ld q
      have h1 : i < n1 := Nat.lt_of_lt_of_le hi (Nat.min_le_left ..)
      have h2 : i < n2 := Nat.lt_of_lt_of_le hi (Nat.min_le_right ..)
      obtain ⟨o1, e1⟩ := S1.there _ _ u1 i1 m1
      obtain ⟨o2, e2⟩ := S2.there _ _ u2 i2 m2
      rcases r with ⟨a, x, y, c⟩ | ⟨T, f, oT, a, hT, r1, r2, r3, r4⟩
      · refine wpAny_pyNext_zipD2_item S D1 D2 a b c u1 u2 h1 h2 fun x y h' tk px py a' c' u1' u2' new size kp => ?_
        have far : ∀ {v : Addr} {o : Obj}, s1.heap.get? v = some o → s1.heap.objs.size ≠ v := fun e => Nat.ne_of_gt (Heap.lt_size e)
        refine q s1.heap.objs.size x y h' tk ⟨px, py⟩ (.inl ⟨_, new, rfl, _, rfl⟩) ⟨kp _ _ S.TIz S.TITO S.TIi1 S.TIi2 b, u1', u2', .inr ⟨s1.heap.objs.size, false, _, a', new, far a, far e1, far e2, Nat.ne_of_gt ld⟩⟩ fun v o hv e => ?_
        simp only [List.mem_cons, List.not_mem_nil, or_false, not_or] at hv
        exact kp v o hv.1 hv.2.1 hv.2.2.1 hv.2.2.2 e
      · refine next_held S D1 D2 a hT b u1 u2 h1 h2 fun x y h' tk p px py a' u1' u2' new kp => ?_
        refine q p x y h' tk ⟨px, py⟩ (.inl ⟨_, new, rfl, _, rfl⟩) ⟨kp _ _ S.TIz S.TIi1 S.TIi2 b, u1', u2', .inr ⟨T, true, oT, a', kp _ _ r1 r2 r3 hT, r1, r2, r3, r4⟩⟩ fun v o hv e => ?_
        simp only [List.mem_cons, List.not_mem_nil, or_false, not_or] at hv
        exact kp v o hv.1 hv.2.2.1 hv.2.2.2 e
    · rintro s1 Q1 E1 ⟨b, u1, u2, r⟩ q
      have over : min n1 n2 = n1 ∨ min n1 n2 = n2 := by omega
      have l1 : min n1 n2 ≤ n1 := Nat.min_le_left ..
      have l2 : min n1 n2 ≤ n2 := Nat.min_le_right ..
      rcases r with ⟨a, x, y, c⟩ | ⟨T, f, oT, a, hT, r1, r2, r3, r4⟩
      · refine wpAny_pyNext_zipD2_end S D1 D2 a b c u1 u2 l1 l2 over fun h' tk kp => q h' tk fun v o hv e => ?_
        simp only [List.mem_cons, List.not_mem_nil, or_false, not_or] at hv
        exact kp v o hv.1 hv.2.1 hv.2.2.1 hv.2.2.2 e
      · refine next_over S D1 D2 a hT b u1 u2 l1 l2 over fun h' tk kp => q h' tk fun v o hv e => ?_
        simp only [List.mem_cons, List.not_mem_nil, or_false, not_or] at hv
        exact kp v o hv.1 hv.2.2.1 hv.2.2.2 e
section
variable {X : Cx} {W : Wld} {n : Nat} {g0 : Gh} {H0 : Hp} {Wx : WX} {env : Env} {σ σ' : L2.St} {st : Sto} {g : Gh} {H : Hp} {pins : List (Addr × Obj)} {s : Shared} {Q : VK}
theorem zip_kv : ∀ {ks : List Key} {vs : List V} {us : List Value}, Vals vs us → KV (ks.zip vs) (ks.zip us)
  | [], _, _, _ => .nil
  | k :: ks, _, _, .nil => .nil
  | k :: ks, _, _, .cons h t => .cons ⟨rfl, h⟩ (zip_kv t)
theorem zip_pk : ∀ {ws : List (List Nat)} {vs : List V} {l : List D}, (∀ w ∈ ws, okS w) → RVs g vs l → PK g ((ws.map keyT).zip vs) ((ws.map D.str).zip l)
  | [], _, _, _, _ => .nil
  | w :: ws, _, _, _, .nil => .nil
  | w :: ws, _, _, ok, .cons h t => .cons ⟨⟨w, rfl, rfl, ok w (.head _)⟩, h⟩ (zip_pk (fun u hu => ok u (.tail _ hu)) t)
/-- the dict itself, from a zip that has just been made -/
theorem run_dict {z TI TO i1 i2 : Addr} {fp1 fp2 : List Addr} {St1 St2 : Nat → Heap → Prop} {ws : List (List Nat)} {l : List D} {vs : List V} {its its2 : List Value} (xw : XW X W) (hc : X.calm = true) (S : ZipSep2 z TI TO i1 i2 fp1 fp2)
    (S1 : Source X.prog X.w i1 fp1 its.toArray.size (fun i v => its.toArray[i]? = some v) St1) (S2 : Source X.prog X.w i2 fp2 its2.toArray.size (fun i v => its2.toArray[i]? = some v) St2)
    (I : Inv X pins σ' H s) (si : SI W g0 H0 env st g σ H) (kd : ItemsK (mixKind X.prog X.w) (ws.map keyT) its.toArray) (ok : ∀ w ∈ ws, okS w) (few : ws.length ≤ SZ) (rv : Vals vs its2) (rl : RVs g vs l)
    (at_ : IsZip s.heap z TI TO .none ∧ IsPair s.heap TI (.ref i1) (.ref i2) ∧ (∃ a b, IsPair s.heap TO a b) ∧ St1 0 s.heap ∧ St2 0 s.heap) (fresh : ∀ b ∈ [z, TO, i1, i2], H b = none ∧ FpOk X pins H b)
    (af : Aft W g0 H0 Wx env σ g (.ok (.dct (mergeD [] ((ws.map D.str).zip l))) st) (Nw W H0 env σ Q)) : wpAny (model X.prog X.w) X.A (call (.type "dict") [.ref z]) (EP X pins σ' Q) X.xe s := by
  have len1 := kd.1
  rw [List.length_map] at len1
  have len2 := rv.length
  have rel : KV ((ws.map keyT).zip vs) ((ws.map keyT).zip its2) := zip_kv rv
  have size : ((ws.map keyT).zip its2).length = min its.toArray.size its2.toArray.size := by rw [List.length_zip, List.length_map, len1, List.size_toArray]
  refine call_dict_pairs (knd := mixKind X.prog X.w) (kvs := (ws.map keyT).zip its2) (zip_pairs S S1 S2) (I.ok.hd hc) at_ ⟨size, fun i key v ⟨h1, h2⟩ => ?_⟩ (Nat.le_trans (Nat.min_le_left _ _) (by rw [len1]; exact le_line few)) fun h' tk hd keep => ?_
  · obtain ⟨k, hk, is, _⟩ := kd.2 i key h1
    refine ⟨k, ?_, is⟩
    rw [List.getElem?_zip_eq_some]
    exact ⟨hk, by simpa using h2⟩
  · have big : (s.heap.objs.size == sysModules) = false := beq_eq_false_iff_ne.mpr (Nat.ne_of_gt I.big)
    have short : (mergeK [] ((ws.map keyT).zip vs)).length ≤ sizeLine := by
      refine Nat.le_trans (length_mergeK _ []) ?_
      rw [List.length_nil, Nat.zero_add, List.length_zip, List.length_map]
      exact Nat.le_trans (Nat.min_le_left _ _) (le_line few)
    obtain ⟨m1, m2⟩ := pk_merge (more := (ws.map keyT).zip vs) (ms := (ws.map D.str).zip l) (kvs := []) (l := []) (zip_pk ok rl) .nil (by simp)
    have new : ObjOk X.prog X.w (upd H s.heap.objs.size (.dK (mergeK [] ((ws.map keyT).zip vs)))) h' s.heap.objs.size (.dK (mergeK [] ((ws.map keyT).zip vs))) := ⟨short, big, merged [] ((ws.map keyT).zip its2), KV.merge rel .nil, hd⟩
    exact ⟨.ref s.heap.objs.size, _, I.turnedNew (t' := tk) (ch := [z, TO, i1, i2]) keep (fun b hb => (fresh b hb).2) (Nat.le_refl _) new, rfl, finD si af (I.hok.fresh (Nat.le_refl _)) (.inl ⟨_, rfl, m1, m2⟩)⟩
theorem items_list {d : D} {l : List D} (e : itemsOf st d = some l) (h : isTup d = false) : listOf st d = some l := by
  cases d <;> first | exact e | cases h | cases e
theorem items_tup {d : D} {l : List D} (e : itemsOf st d = some l) (h : isTup d = true) : d = .tup l := by
  cases d <;> first | (cases e; rfl) | cases h
theorem run_zipD {x y : V} {u v : Value} {da db : D} {ws : List (List Nat)} {l2 : List D} (xw : XW X W) (hcm : X.calm = true) (I : Inv X pins σ' H s) (si : SI W g0 H0 env st g σ H) (ra : RT W g H0 env σ x da) (rb : RT W g H0 env σ y db)
    (e1 : itemsOf st da = some (ws.map D.str)) (e2 : itemsOf st db = some l2) (ck : isTup da = isTup db) (cz : ws.length ≤ SZ) (rx : RelV x u) (ry : RelV y v) (af : Aft W g0 H0 Wx env σ g (.ok (.dct (mergeD [] ((ws.map D.str).zip l2))) st) (Nw W H0 env σ Q))
    {Q2 : Value → Shared → Prop} (k : ∀ w s2, wpAny (model X.prog X.w) X.A (call (.type "dict") [w]) (EP X pins σ' Q) X.xe s2 → Q2 w s2) : wpAny (model X.prog X.w) X.A (call (.type "zip") [u, v]) Q2 X.xe s := by
  have free : ∀ c, s.heap.objs.size ≤ c → H c = none ∧ FpOk X pins H c := fun c hc => ⟨I.hok.fresh hc, I.fpOk hc (I.hok.fresh hc)⟩
  have four : ∀ c ∈ [s.heap.objs.size + 4, s.heap.objs.size + 3, s.heap.objs.size, s.heap.objs.size + 1], H c = none ∧ FpOk X pins H c := fun c hc => by
    rcases List.mem_cons.mp hc with q | hc
    · exact free c (q ▸ Nat.le_add_right _ _)
    rcases List.mem_cons.mp hc with q | hc
    · exact free c (q ▸ Nat.le_add_right _ _)
    rcases List.mem_cons.mp hc with q | hc
    · exact free c (q ▸ Nat.le_refl _)
    · exact free c ((List.mem_singleton.mp hc) ▸ Nat.le_add_right _ _)
  cases ct : isTup da with
  | true =>
    cases items_tup e1 ct
    cases items_tup e2 (ck ▸ ct)
    obtain ⟨a, vs, ex, ha, pa⟩ := si.tupT xw.ok ra
    obtain ⟨b, vs2, ey, hb, pb⟩ := si.tupT xw.ok rb
    subst ex ey
    cases (show u = Value.ref a from rx)
    cases (show v = Value.ref b from ry)
    obtain ⟨its, r1, p1, _⟩ := I.tuple (by rw [xw.K]; exact ha)
    obtain ⟨its2, r2, p2, _⟩ := I.tuple (by rw [xw.K]; exact hb)
    have la : a < s.heap.objs.size := by obtain ⟨_, q, _⟩ := p1; exact Heap.lt_size q
    have lb : b < s.heap.objs.size := by obtain ⟨_, q, _⟩ := p2; exact Heap.lt_size q
    refine RZ.call_zipT p1 p2 fun h' hz hTI hTO h1 h2 _ keep => k _ _ ?_
    exact run_dict (s := { s with heap := h' }) xw hcm (zip_sep2 (fp1 := [a]) (fp2 := [b]) (fun c hc => (List.mem_singleton.mp hc) ▸ la) (fun c hc => (List.mem_singleton.mp hc) ▸ lb)) (src_tup _ a (Nat.ne_of_lt la) its.toArray) (src_tup _ b (Nat.ne_of_lt (Nat.lt_succ_of_lt lb)) its2.toArray)
      (I.kept (t' := s.toks) keep) si (items_texts r1 pa) (rvs_strs pa).2 cz r2 pb ⟨hz, hTI, ⟨_, _, hTO⟩, ⟨h1, (show s.heap.IsTuple a its.toArray from p1).at fun o e => keep _ o e⟩, h2, (show s.heap.IsTuple b its2.toArray from p2).at fun o e => keep _ o e⟩ four af
  | false =>
    obtain ⟨a, vs, ex, ha, pa⟩ := si.list xw.ok ra (items_list e1 ct)
    obtain ⟨b, vs2, ey, hb, pb⟩ := si.list xw.ok rb (items_list e2 (ck ▸ ct))
    subst ex ey
    cases (show u = Value.ref a from rx)
    cases (show v = Value.ref b from ry)
    obtain ⟨its, r1, p1, _⟩ := I.list (a := a) (xs := vs) (.of ha)
    obtain ⟨its2, r2, p2, _⟩ := I.list (a := b) (xs := vs2) (.of hb)
    have la := p1.lt
    have lb := p2.lt
    refine call_zip_2 p1.isList p2.isList fun h' hz hTI hTO h1 h2 _ keep => k _ _ ?_
    exact run_dict (s := { s with heap := h' }) xw hcm (zip_sep2 (fp1 := [a]) (fp2 := [b]) (fun c hc => (List.mem_singleton.mp hc) ▸ la) (fun c hc => (List.mem_singleton.mp hc) ▸ lb)) (src_lst _ a (Nat.ne_of_lt la) its.toArray) (src_lst _ b (Nat.ne_of_lt (Nat.lt_succ_of_lt lb)) its2.toArray)
      (I.kept (t' := s.toks) keep) si (items_texts r1 pa) (rvs_strs pa).2 cz r2 pb ⟨hz, hTI, ⟨_, _, hTO⟩, ⟨h1, p1.isList.at fun o e => keep _ o e⟩, h2, p2.isList.at fun o e => keep _ o e⟩ four af
variable {es : As} {ea eb : Expr} {p p2 q pos : Pos}
theorem cf_zipD (xw : XW X W) (hcm : X.calm = true) (hg : Gl X "dict") (hm : X.mg "dict" = none) (hg2 : Gl X "zip") (hm2 : X.mg "zip" = none) (ha : PA X [ea, eb] (tMAT W g0 H0 Wx (evTs W.T (callN W.T n) es)))
    (hs : starEach [ea, eb] X.env = (false, eval ea X.env) :: starEach [eb] X.env) (hpl : (backTo q (starEach [eb] X.env)).any (·.1) = false) :
    PE X (.Call (.Name "dict" p) [.Call (.Name "zip" p2) [ea, eb] [] q] [] pos) (tMF W g0 H0 Wx (fun env s => (evTs W.T (callN W.T n) es env s).bind fun ds s => R.of (pDictZip s ds) s)) := by
  refine ⟨fun pins s σ H Q I ⟨env, st, g, si, af⟩ => PyProof.Rows.Call_ (ld_blt I hg hm (show bootBuiltins "dict" = some (.type "dict") from by decide +kernel) (PyProof.Rows.callWith_type1 (PyProof.Rows.args_cons (PyProof.Rows.Call_ (ld_blt I hg2 hm2 (show bootBuiltins "zip" = some (.type "zip") from by decide +kernel) ?_ (by decide +kernel) (by decide +kernel))) rfl) rfl rfl) (by decide +kernel) (by decide +kernel))⟩
  refine PyProof.Rows.callWith_type1 (thn (ha.run q pins s σ H (fun xs H1 => ∃ ds st1 g1, SI W g0 H0 env st1 g1 σ H1 ∧ Paired (RT W g1 H0 env σ) xs ds ∧ Aft W g0 H0 Wx env σ g1 (R.of (pDictZip st1 ds) st1) (Nw W H0 env σ Q)) I
    ⟨env, st, g, si, af.bind.imp fun ds st1 g1 H1 l1 si1 af1 vs rvs => ⟨ds, st1, g1, si1, rvs, af1⟩⟩) fun us s1 ⟨xs, H1, I1, r1, ds, st1, g1, si1, rx, af1⟩ => ?_) hs hpl
  simp only [pDictZip] at af1
  split at af1
  · rename_i da db
    cases rx with
    | cons ra rt =>
      cases rt with
      | cons rb rt =>
        cases rt
        cases r1 with
        | cons v1 r1 =>
          cases r1 with
          | cons v2 r1 =>
            cases r1
            cases e1 : itemsOf st1 da with
            | none => rw [e1] at af1; exact af1.elim
            | some l1 =>
              cases e2 : itemsOf st1 db with
              | none => rw [e1, e2] at af1; exact af1.elim
              | some l2 =>
                rw [e1, e2] at af1
                simp only [Option.bind_some] at af1
                split at af1
                · rename_i c
                  simp only [Bool.and_eq_true, decide_eq_true_eq, beq_iff_eq] at c
                  obtain ⟨⟨cs, ck⟩, cz⟩ := c
                  obtain ⟨ws, ew⟩ := strs_of cs
                  subst ew
                  rw [List.length_map] at cz
                  exact run_zipD xw hcm I1 si1 ra rb e1 e2 ck cz v1 v2 af1 fun v s2 k => PyProof.Rows.args_nil k
                · exact af1.elim
  · exact af1.elim
end
end CF
/-! CFDisp -/
/-! {'key': value}. -/
namespace CF
open PySem PySem.Spec L2
section
variable {X : Cx} {W : Wld} {n : Nat} {g0 : Gh} {H0 : Hp} {Wx : WX} {env : Env} {σ : L2.St} {st : Sto} {g : Gh} {H : Hp} {Q : VK} {m : Env → Sto → R D}
/-- over any base -/
def tMX (W : Wld) (Wx : WX) (m : Env → Sto → R D) : TE := fun σ H Q => ∃ g0 H0, tM W g0 H0 Wx m σ H Q
theorem peX {ee : Expr} (h : ∀ g0 H0, PE X ee (tM W g0 H0 Wx m)) : PE X ee (tMX W Wx m) := ⟨fun pins s σ H Q I ⟨g0, H0, q⟩ => (h g0 H0).run pins s σ H Q I q⟩
theorem cf_disp {z : List Nat} {ek ev : Expr} {pos : Pos} (okz : okS z) (hk : PE X ek (tC (.str (toS z)))) (hv : ∀ g0 H0, PE X ev (tM W g0 H0 Wx m)) :
    PE X (.Dict [some ek] [ev] pos) (tMF W g0 H0 Wx (fun env s => (m env s).bind fun d s => .ok (.dct [(.str z, d)]) s)) :=
  (pe_disp (pps_cons hk (peX hv) pps_nil) rfl rfl (by simp) (show (1 : Nat) ≤ 15 by decide)).imp' fun σ H Q ⟨env, st, g, si, af⟩ p hp => by
    have si1 : SI W g0 H0 env st g σ (upd H p (.dK [])) := si.next (si.hs.lay hp) (Frm.lay hp)
    have h0 : H0 p = none := by
      cases e : H0 p with
      | none => rfl
      | some o => exact absurd hp (si.fr.al p (by rw [e]; simp))
    have nf := si.hs.nofz hp
    have nm := si.hs.nomu hp
    have no := own_no si hp
    have si2 := si1.base (D := p) upd_same h0 nf nm no
    refine ⟨g0, upd H0 p (.dK []), env, st, g, si2, ?_⟩
    obtain ⟨_, n0, m0⟩ := g0_no si hp
    replace af : Aft W g0 H0 Wx env σ g ((m env st).bind fun d s => .ok (.dct [(.str z, d)]) s) (Nw W H0 env σ Q) := af
    revert af
    cases m env st with
    | bad => exact fun af => (show False from af).elim
    | exc c fs st1 => exact fun af cls dd g1 H1 le si3 ex => af cls dd g1 H1 le (si3.unbase h0 n0 m0).1 ex
    | ok d st1 =>
      intro af g1 H1 le si3 v rv
      obtain ⟨si4, at_, nf4, nm4, no4⟩ := si3.unbase h0 n0 m0
      refine ⟨at_, [(Sum.inr (toS z), v)], rfl, (show (1 : Nat) ≤ 15 by decide), ?_⟩
      have si5 := si4.putD (o := .dK (mergeK [] [(Sum.inr (toS z), v)])) h0 (by rw [at_]; simp) nf4 nm4 (fun o u e => by rw [at_] at e; cases e) no4
      exact (af g1 _ le si5).2 p ⟨nf4, nm4, h0, no4, _, upd_same, .inl ⟨_, rfl, .cons ⟨⟨z, rfl, rfl, okz⟩, rv⟩ .nil, by simp [mergeK, putK]⟩⟩
end
end CF
/-! CFD1 -/
/-! {key: value}, the key a tuple. -/
namespace CF
open PySem PySem.Spec L2
section
variable {X : Cx} {W : Wld} {n : Nat} {g0 : Gh} {H0 : Hp} {Wx : WX} {env : Env} {σ : L2.St} {st : Sto} {g : Gh} {H : Hp} {mk mv : Env → Sto → R D}
/-- a display with one pair, its dict by its entries -/
theorem wp_dict1 {prog : Program} {w : World} {K : Type} [DecidableEq K] {knd : HeapKind prog w K} {A : Around} {E Q : Value → Shared → Prop} {s : Shared} {ek ev : Expr} {en : PySem.Env} {pos : Pos} (hu : knd.room A)
    (h : wpAny (model prog w) A (evalPairs (pairTrees [some ek] [ev] en pos)) (fun vs s1 => ∃ ps, CarriesH knd s1.heap vs ps ∧ s1.heap.DictOfH knd s.heap.objs.size [] ∧ ∀ h' tk, h'.DictOfH knd s.heap.objs.size (storedAllH [] ps) → Heap.SameBut s.heap.objs.size s1.heap h' → Q (.ref s.heap.objs.size) { s1 with heap := h', toks := tk }) E
      { s with heap := s.heap.push { cls := .type "dict", data := .dict #[] } }) : wpAny (model prog w) A (eval (.Dict [some ek] [ev] pos) en) Q E s := by
  rw [arm_eval_Dict, zip_pairTrees [some ek] [ev] en pos rfl rfl, dictDisplay_pairs _ (by simp [pairTrees]) (by simp [pairTrees])]
  refine wpAny_bind (wpAny_standAt (wpAny_bind ?_))
  refine wpAny_subDictH (knd := knd) (Q := fun d s' => wpAny (model prog w) A (pure (Value.ref d)) Q E s') hu (by simp [pairTrees]) (wpAny_mono h (fun vs s1 q => ?_) fun _ _ e => e)
  obtain ⟨ps, h1, h2, h3⟩ := q
  exact ⟨ps, h1, h2, fun h' tk a b => wpAny_pure (h3 h' tk a b)⟩
theorem cf_disp1 (xw : XW X W) {ek ev : Expr} {pos : Pos} (hk : ∀ g0 H0, PE X ek (tM W g0 H0 Wx mk)) (hv : ∀ g0 H0, PE X ev (tM W g0 H0 Wx mv)) :
    PE X (.Dict [some ek] [ev] pos) (tMF W g0 H0 Wx (fun env s => (mk env s).bind fun a s => (mv env s).bind fun b s => if isTup a && keyN 5 a then .ok (.dct [(a, b)]) s else .bad)) := by
  refine ⟨fun pins s σ H Q I ⟨env, st, g, si, af⟩ => ?_⟩
  obtain ⟨p, hpe⟩ : ∃ p, p = s.heap.objs.size := ⟨_, rfl⟩
  have hp : H p = none := by rw [hpe]; exact I.hok.fresh (Nat.le_refl _)
  have I1 := I.laid (a := s.heap.objs.size) (o := .dK []) (h' := s.heap.push { cls := .type "dict", data := .dict #[] }) (t' := s.toks) (fun _ _ q => Heap.get?_push_of_some _ q) (Nat.le_refl _) (dk_empty s.heap I.big)
  rw [← hpe] at I1
  have si1 : SI W g0 H0 env st g σ (upd H p (.dK [])) := si.next (si.hs.lay hp) (Frm.lay hp)
  have h0 : H0 p = none := by
    cases e : H0 p with
    | none => rfl
    | some o => exact absurd hp (si.fr.al p (by rw [e]; simp))
  have nf := si.hs.nofz hp
  have nm := si.hs.nomu hp
  have no := own_no si hp
  have si2 := si1.base (D := p) upd_same h0 nf nm no
  obtain ⟨_, n0, m0⟩ := g0_no si hp
  have hroom := xw.room
  refine wp_dict1 (knd := nestedKind X.prog X.w) (by show X.A.units + 8 < cLine; omega) ?_
  refine thn ((pps_cons (peX hk) (peX hv) pps_nil).run pins _ σ _ (fun ps H2 => ∃ x y a b g2 st2, ps = [(x, y)] ∧ SI W g0 (upd H0 p (.dK [])) env st2 g2 σ H2 ∧ RV g2 x a ∧ RV g2 y b ∧ isTup a = true ∧ keyN 5 a = true ∧ Gh.le g g2 ∧ Aft W g0 H0 Wx env σ g (.ok (.dct [(a, b)]) st2) (Nw W H0 env σ Q)) I1 ?_) fun ws s2 ⟨ps, H2, I2, rel, q⟩ => ?_
  · refine ⟨g0, upd H0 p (.dK []), env, st, g, si2, ?_⟩
    replace af : Aft W g0 H0 Wx env σ g ((mk env st).bind fun a s => (mv env s).bind fun b s => if isTup a && keyN 5 a then .ok (.dct [(a, b)]) s else .bad) (Nw W H0 env σ Q) := af
    revert af
    cases mk env st with
    | bad => exact fun af => (show False from af).elim
    | exc c fs st1 => exact fun af cls dd g1 H1 le si3 ex => af cls dd g1 H1 le (si3.unbase h0 n0 m0).1 ex
    | ok a st1 =>
      intro af g1 H1 le1 si3 x rx
      refine ⟨g0, upd H0 p (.dK []), env, st1, g1, si3, ?_⟩
      have af : Aft W g0 H0 Wx env σ g ((mv env st1).bind fun b s => if isTup a && keyN 5 a then .ok (.dct [(a, b)]) s else .bad) (Nw W H0 env σ Q) := af
      revert af
      cases mv env st1 with
      | bad => exact fun af => (show False from af).elim
      | exc c fs st2 => exact fun af cls dd g2 H2 le si4 ex => af cls dd g2 H2 (le1.trans le) (si4.unbase h0 n0 m0).1 ex
      | ok b st2 =>
        intro af g2 H2 le2 si4 y ry
        have af : Aft W g0 H0 Wx env σ g (if isTup a && keyN 5 a then .ok (.dct [(a, b)]) st2 else .bad) (Nw W H0 env σ Q) := af
        split at af
        · rename_i hc
          simp only [Bool.and_eq_true] at hc
          exact ⟨x, y, a, b, g2, st2, rfl, si4, rx.mono le2, ry, hc.1, hc.2, le1.trans le2, af⟩
        · exact af.elim
  · obtain ⟨x, y, a, b, g2, st2, e, si3, rx, ry, ht, hn, le, af⟩ := q
    subst e
    obtain ⟨si4, at_, nf4, nm4, no4⟩ := si3.unbase h0 n0 m0
    obtain ⟨c, ec⟩ : ∃ c, x = .ref c := by
      cases a <;> simp [isTup] at ht
      obtain ⟨c, e, _⟩ := rx.tup_inv
      exact ⟨c, e⟩
    subst ec
    cases rel with
    | @cons _ w _ wr rw1 rt =>
      cases rt
      obtain ⟨kv, vv⟩ := w
      obtain ⟨q1, q2⟩ := rw1
      cases (show kv = Value.ref c from q1)
      have hkey := key_is xw.K xw.ok si4.hs I2 hn rx
      obtain ⟨xs, _, dh, px, _, hsy, _⟩ := dh_of (l := []) xw.P xw.w xw.K xw.ok si4.hs I2 (.of at_) (.inl ⟨[], rfl, .nil, by simp⟩) rfl
      cases px
      refine ⟨[(nkey a, c, vv)], ⟨rfl, rfl, hkey, trivial⟩, by rw [← hpe]; exact dh, fun h' tk dd' hs' => ?_⟩
      rw [← hpe] at dd' hs'
      have e1 : storedAllH ([] : List (NestedKey × Addr × Value)) [(nkey a, c, vv)] = [(nkey a, c, vv)] := rfl
      rw [e1] at dd'
      have he : ∃ q, h'.get? p = some q := let ⟨q, _, _, hq, _⟩ := dd'; ⟨q, hq⟩
      have J := d_write (t' := tk) I2 (by rw [at_]; exact True.intro) hs' he (dto_new (H' := upd H2 p (DTO X.prog X.w p [(nkey a, c, vv)])) dd')
      have si5 := si4.putD (o := DTO X.prog X.w p [(nkey a, c, vv)]) h0 (by rw [at_]; simp) nf4 nm4 (fun o u e => by rw [at_] at e; cases e) no4
      rw [← hpe]
      refine ⟨.ref p, _, J, rfl, (af g2 _ le si5).2 p ⟨nf4, nm4, h0, no4, _, upd_same, .inr ⟨[(nkey a, c, vv)], by rw [xw.P, xw.w], .cons ⟨ht, hn, rfl, rx, y, q2, ry⟩ .nil, by simp, hsy, by rw [sizeLine_eq]; simp, by simp⟩⟩⟩
end
end CF
/-! CFKey -/
/-! sorted(.., key=sum). -/
namespace CF
open PySem PySem.Spec L2
theorem sumK_all {l : List D} : sortOk (l.map fun d => D.int (sumD d)) = true := by
  unfold sortOk
  simp only [Bool.and_eq_true, Bool.or_eq_true, List.all_eq_true, List.mem_map]
  refine ⟨⟨fun a ha b hb => ?_, fun a ha => ?_⟩, .inr fun a ha => ?_⟩
  · obtain ⟨x, _, rfl⟩ := ha
    obtain ⟨y, _, rfl⟩ := hb
    rfl
  · obtain ⟨x, _, rfl⟩ := ha
    rfl
  · obtain ⟨x, _, rfl⟩ := ha
    rfl
theorem sort_sum (l : List D) : l.mergeSort (W.dataLe false fun d => PyData.int (sumD d)) = sortBy (fun a b => decide (sumD a < sumD b)) l := by
  rw [← sortBy_merge (dataLe_total fun d => PyData.int (sumD d))]
  refine sortBy_congr fun a ha b hb => ?_
  rw [W.dataLe_eq]
  simp only [cond_false, Bool.not_not]
  exact lt_of LV LV (.int (sumD a)) (.int (sumD b)) rfl rfl rfl
/-- ints with their marks -/
theorem ints_toks : ∀ {is : List Int} {us : List Value}, Vals (is.map V.int) us → ∃ zs : List (Int × Tok), zs.map (·.1) = is ∧ us = zs.map fun z => .int z.1 z.2
  | [], _, h => by cases h; exact ⟨[], rfl, rfl⟩
  | i :: is, _, h => by
    cases h with
    | cons q t =>
      obtain ⟨tk, e⟩ := q
      obtain ⟨zs, e1, e2⟩ := ints_toks t
      exact ⟨(i, tk) :: zs, by rw [List.map_cons, e1], by rw [List.map_cons, e, e2]⟩
theorem pre_list {val : Nat → Int} : ∀ (l : List Int) (d : Nat), (∀ i, i < l.length → val (d + i) = (l[i]?).getD 0) → preSum val (d + l.length) = preSum val d + l.sum
  | [], d, _ => by simp
  | x :: l, d, h => by
    have h0 := h 0 (by simp)
    have ih := pre_list (val := val) l (d + 1) fun i hi => by
      have := h (i + 1) (by simpa using hi)
      rw [show d + 1 + i = d + (i + 1) by omega, this]
      rfl
    rw [List.length_cons, show d + (l.length + 1) = d + 1 + l.length by omega, ih, List.sum_cons]
    show preSum val d + val d + l.sum = _
    rw [show val d = x by simpa using h0]
    omega
section
variable {X : Cx} {W : Wld} {n : Nat} {g0 : Gh} {H0 : Hp} {Wx : WX} {env : Env} {σ σ' : L2.St} {st : Sto} {g : Gh} {H : Hp} {pins : List (Addr × Obj)} {s : Shared} {u : Value} {x : V} {d : D} {l : List D}
/-- what sum gives for an item that is a tuple of ints -/
theorem sum_item {A : Around} {E : Value → Shared → Prop} {h : Heap} {tk : Nat} {v : Value} {b : D} {i : Int} (xw : XW X W) (I : Inv X pins σ' H s) (si : SI W g0 H0 env st g σ H) (hA : A.handled = none) (rv : VD g v b) (hb : keySum b = some i) (keep : ∀ b o, s.heap.get? b = some o → h.get? b = some o) :
    wpAny (model X.prog X.w) A (call (.builtin "sum") [v]) (PySem.W.KeyPure (PyData.int (sumD b)) { s with heap := h, toks := tk }) E { s with heap := h, toks := tk } := by
  obtain ⟨y, ry, rb⟩ := rv
  have hs : sumD b = i := by unfold sumD; rw [hb]; rfl
  cases b with
  | tup ds =>
    have hb' : (intsOf ds).map List.sum = some i := hb
    obtain ⟨is, e1, e2⟩ := Option.map_eq_some_iff.mp hb'
    obtain ⟨a, vs, ex, hq, rvs⟩ := si.tupT xw.ok (.inl rb)
    subst ex
    cases (show v = Value.ref a from ry)
    rw [ints_rv e1 rvs, ← xw.K] at hq
    obtain ⟨its, r, pl, _⟩ := I.tuple hq
    obtain ⟨zs, f1, f2⟩ := ints_toks r
    have ea : its.toArray = intItems zs.toArray := by
      rw [f2]
      unfold intItems
      simp
    have ht : h.IsTuple a (intItems zs.toArray) := by
      rw [← ea]
      obtain ⟨o, ho, hc⟩ := pl
      exact ⟨o, keep _ _ ho, hc⟩
    refine PySem.W.ktm_sumG (s := { s with heap := h, toks := tk }) hA ht fun h' tk' t' hk => ⟨h', tk', rfl, hk, ?_⟩
    have hp := pre_list (val := numAt zs.toArray) is 0 fun j hj => by
      rw [← f1]
      simp [numAt]
    have hz : zs.toArray.size = is.length := by
      rw [← f1]
      simp
    rw [Nat.zero_add] at hp
    rw [hz, hp, hs, ← e2]
    show Reads h' (.int (0 + is.sum) t') (.int is.sum) []
    rw [Int.zero_add]
    exact .int _ _
  | _ => cases hb
/-- sorted(a list of tuples of ints, key=sum) -/
theorem run_sortSum {Q : VK} (xw : XW X W) (hc : X.calm = true) (I : Inv X pins σ' H s) (si : SI W g0 H0 env st g σ H) (hi : listOf st d = some l) (rx : RT W g H0 env σ x d) (ru : RelV x u) (hk : (l.all fun y => (keySum y).isSome) = true)
    (q : ∀ vs p, RVs g vs (sortBy (fun a b => decide (sumD a < sumD b)) l) → H p = none → Q (.ref p) (upd H p (.lst vs))) :
    wpAny (model X.prog X.w) X.A (call (.builtin "sorted") [u] [(Str.ofString "key", .builtin "sum")]) (EP X pins σ' Q) X.xe s := by
  obtain ⟨a, vs, h1, h2, h3⟩ := si.list xw.ok rx hi
  subst h1
  cases (show u = Value.ref a from ru)
  obtain ⟨its, r', pl, hz⟩ := I.list (a := a) (xs := vs) (.of h2)
  have hr := xw.room
  have el := pairedLen h3
  have em : (l.map fun d => PyData.int (sumD d)) = (l.map fun d => D.int (sumD d)).map toPy := by
    rw [List.map_map]
    rfl
  refine PySem.W.sorted_key_data (R := VD g) (k := fun d => PyData.int (sumD d)) (b := false) pl.isList (each_of r' h3) (by rw [em]; exact allAlike_of sumK_all) (by rw [em]; exact sortable_of sumK_all) (by rw [← el]; exact hz) (fun b hb => ?_) (PyProof.Rows.ksk_s1 _ _) (fun _ => PyProof.Rows.ksk_l1 _ _) (fun _ => PyProof.Rows.ksk_t4 _ _) (fun v b rv hb h tk keep => ?_) fun out c h' tk keep fr at_ ln eo => ?_
  · have : (PyData.int (sumD b)).depth = 0 := rfl
    omega
  · have hb' := List.all_eq_true.mp hk b hb
    obtain ⟨i, ei⟩ := Option.isSome_iff_exists.mp hb'
    exact sum_item (A := X.A.in1.in1) xw I si (I.ok.hd hc) rv ei keep
  · rw [sort_sum] at eo
    obtain ⟨vs', hv, hr'⟩ := of_each eo
    have hlen : vs'.length ≤ sizeLine := by rw [pairedLen hr', sortBy_len]; omega
    have free : H (s.heap.objs.size + 1) = none := I.hok.fresh (Nat.le_succ _)
    exact ⟨.ref _, upd H (s.heap.objs.size + 1) (.lst vs'), I.laid (t' := tk) keep (Nat.le_succ _) ⟨hlen, out, c, hv, at_⟩, rfl, q vs' _ hr' free⟩
variable {es : As} {ea : Expr} {p p2 kp q pos : Pos}
theorem cf_sortSum (xw : XW X W) (hc : X.calm = true) (hg : Gl X "sorted") (hm : X.mg "sorted" = none) (hg2 : Gl X "sum") (hm2 : X.mg "sum" = none) (ha : PA X [ea] (tMAT W g0 H0 Wx (evTs W.T (callN W.T n) es))) (na : starEach [ea] X.env = (false, eval ea X.env) :: starEach [] X.env) :
    PE X (.Call (.Name "sorted" p) [ea] [⟨some "key", .Name "sum" p2, kp⟩] pos) (tMF W g0 H0 Wx (fun env s => (evTs W.T (callN W.T n) es env s).bind fun ds s => R.of (pSortedSum s ds) s)) := by
  refine ⟨fun pins s σ H Q I ⟨env, st, g, si, af⟩ => wpAny_Call_Name_kw (ld_blt I hg hm (show bootBuiltins "sorted" = some (.builtin "sorted") from by decide +kernel) ?_ (by decide +kernel) (by decide +kernel))⟩
  refine PyProof.Rows.callWith_kw (thn (ha.run pos pins s σ H (fun xs H1 => ∃ ds st1 g1, SI W g0 H0 env st1 g1 σ H1 ∧ Paired (RT W g1 H0 env σ) xs ds ∧ Aft W g0 H0 Wx env σ g1 (R.of (pSortedSum st1 ds) st1) (Nw W H0 env σ Q)) I
    ⟨env, st, g, si, af.bind.imp fun ds st1 g1 H1 l1 si1 af1 vs rvs => ⟨ds, st1, g1, si1, rvs, af1⟩⟩) fun us s1 ⟨xs, H1, I1, r1, ds, st1, g1, si1, rx, af1⟩ => ?_) (by rw [na]; rfl) (by rw [na]; rfl) rfl rfl
  show wpAny _ _ (evalAll [do let v ← eval (.Name "sum" p2) X.env; standAt pos; pure v]) _ _ s1
  refine wpAny_evalAll_cons (wpAny_bind (ld_blt I1 hg2 hm2 (show bootBuiltins "sum" = some (.builtin "sum") from by decide +kernel) (wpAny_bind (wpAny_standAt (wpAny_pure (wpAny_evalAll_nil ?_)))) (by decide +kernel) (by decide +kernel)))
  simp only [pSortedSum] at af1
  split at af1
  · rename_i d
    obtain ⟨x, ex, r⟩ := p1 rx
    subst ex
    obtain ⟨u, eu, ru⟩ := vals1 r1
    subst eu
    cases hi : listOf st1 d with
    | none => rw [hi] at af1; exact af1.elim
    | some l =>
      rw [hi] at af1
      simp only [Option.bind_some] at af1
      split at af1
      · rename_i hk
        exact run_sortSum xw hc I1 si1 hi r ru hk fun vs p rv free => finLN si1 af1 rv p free
      · exact af1.elim
  · exact af1.elim
/-! ### list(range(n)) -/
theorem rv_range {a : Int} : ∀ l : List Nat, RVs g (l.map fun i => V.int (a + (i : Nat))) (l.map fun i => D.int (a + (i : Nat)))
  | [] => .nil
  | i :: l => .cons rfl (rv_range l)
theorem prg_of {m : Env → Sto → R (List D)} {t : L2.St → Hp → (Int → Int → Hp → Prop) → Prop} (hg : Gl X "range") (hm : X.mg "range" = none) (ha : PA X [ea] (tMAT W g0 H0 Wx m)) (na : starEach [ea] X.env = (false, eval ea X.env) :: starEach [] X.env)
    (k : ∀ σ H Q, t σ H Q → ∃ env st g, SI W g0 H0 env st g σ H ∧ Aft W g0 H0 Wx env σ g (m env st) (fun ds st' g' H' => SI W g0 H0 env st' g' σ H' → ∃ i, ds = [.int i] ∧ Q 0 i H')) : PRg X (.Call (.Name "range" p2) [ea] [] q) t := by
  intro pins s σ H Q I h
  obtain ⟨env, st, g, si, af⟩ := k σ H Q h
  refine PyProof.Rows.Call_ (ld_blt I hg hm (show bootBuiltins "range" = some (.type "range") from by decide +kernel) ?_ (by decide +kernel) (by decide +kernel))
  refine PyProof.Rows.callWith_type1 (thn (ha.run q pins s σ H (fun xs H1 => ∃ i, xs = [.int i] ∧ Q 0 i H1) I ⟨env, st, g, si, af.imp fun ds st1 g1 H1 l1 si1 k1 xs rx => ?_⟩) fun us s1 ⟨xs, H1, I1, r1, i, ex, hq⟩ => ?_) na rfl
  · obtain ⟨i, ed, hq⟩ := k1 si1
    subst ed
    obtain ⟨x, ex, rx'⟩ := p1 rx
    subst ex
    exact ⟨i, by rw [si1.intT rx'], hq⟩
  · subst ex
    obtain ⟨u, eu, t, et⟩ := vals1 r1
    subst eu et
    refine PySem.call_range_1 ?_
    exact ⟨s1.heap.objs.size, 0, i, _, _, _, H1, rfl, IsRange.new _ _ _ _ _ _ _, I1.kept fun b u e => Heap.get?_push_of_some _ e, hq⟩
theorem cf_listRg (xw : XW X W) (hc : X.calm = true) (hg : Gl X "list") (hm : X.mg "list" = none) (hg2 : Gl X "range") (hm2 : X.mg "range" = none) (ha : PA X [ea] (tMAT W g0 H0 Wx (evTs W.T (callN W.T n) es))) (na : starEach [ea] X.env = (false, eval ea X.env) :: starEach [] X.env) :
    PE X (.Call (.Name "list" p) [.Call (.Name "range" p2) [ea] [] q] [] pos) (tMF W g0 H0 Wx (fun env s => (evTs W.T (callN W.T n) es env s).bind fun ds s => R.of (pListRange ds) s)) :=
  (pe_listRg hc hg hm (prg_of (t := fun σ H Q => ∃ env st g, SI W g0 H0 env st g σ H ∧ Aft W g0 H0 Wx env σ g (evTs W.T (callN W.T n) es env st) (fun ds st' g' H' => SI W g0 H0 env st' g' σ H' → ∃ i, ds = [.int i] ∧ Q 0 i H')) hg2 hm2 ha na (fun σ H Q h => h)) rfl).imp' fun σ H Q ⟨env, st, g, si, af⟩ => ⟨env, st, g, si, af.bind.imp fun ds st1 g1 H1 l1 si1 af1 si2 => by
    unfold pListRange at af1
    split at af1
    · rename_i i
      split at af1
      · rename_i hz
        refine ⟨i, rfl, ⟨by omega, by omega, by omega, by have := hz.2; unfold SZ at this; omega, by have := hz.2; unfold SZ at this; omega⟩, fun p free => ?_⟩
        exact finLN si1 af1 (by
          unfold rgV rangeD
          rw [Int.sub_zero]
          exact rv_range _) p free
      · exact af1.elim
    · exact af1.elim⟩
end
end CF
/-! CFSyn -/
/-! Facts of the written program's form that the rules ask. -/
namespace CF
open PySem PySem.Spec L2
def notStar : Expr → Bool
  | .Starred _ _ => false
  | _ => true
def notSup : Expr → Bool
  | .Call (.Name _ _) [] [] _ => false
  | _ => true
def isSup : Expr → Bool
  | .Call (.Name id _) [] [] _ => id == ("super" : Str)
  | _ => false
theorem star_cons {e : Expr} {r : List Expr} {env : PySem.Env} (h : notStar e = true) : starEach (e :: r) env = (false, eval e env) :: starEach r env := by
  cases e <;> first | rfl | cases h
theorem star_star {e : Expr} {p : Pos} {r : List Expr} {env : PySem.Env} : starEach (.Starred e p :: r) env = (true, eval e env) :: starEach r env := rfl
theorem star_all {env : PySem.Env} {pos : Pos} : ∀ {es : List Expr}, es.all notStar = true → (backTo pos (starEach es env)).any (·.1) = false
  | [], _ => rfl
  | e :: r, h => by
    simp only [List.all_cons, Bool.and_eq_true] at h
    rw [star_cons h.1]
    show (false || (backTo pos (starEach r env)).any (·.1)) = false
    rw [star_all h.2]; rfl
theorem base_of {e : Expr} {nm : Str} {env : PySem.Env} (h : isSup e = false) : attributeBase e nm env (eval e env) = eval e env := by
  unfold attributeBase
  split
  · rename_i id p pos
    have hne : (id != ("super" : Str)) = true := by
      simp only [isSup] at h
      simp [bne, h]
    rw [hne]
    rfl
  · rfl
theorem stars_no {env : PySem.Env} {pos : Pos} : ∀ {es : List Expr}, es.all notStar = true → (backTo pos (starEach es env)).all (fun x => !x.1) = true
  | [], _ => rfl
  | e :: r, h => by
    simp only [List.all_cons, Bool.and_eq_true] at h
    rw [star_cons h.1]
    show (true && (backTo pos (starEach r env)).all (fun x => !x.1)) = true
    rw [stars_no h.2]; rfl
theorem form_ok {env : PySem.Env} {pos : Pos} {es : List Expr} (h : es.all notStar = true) (hl : es.length < 30) : methodCallForm (es.length + ([] : List Keyword).length) (backTo pos (starEach es env)) (backToKw pos (keywordEach [] env)) = true := by
  unfold methodCallForm
  rw [stars_no h]
  show (true && true && decide (es.length + 0 + (if ([] : List (Option Str × Sem Value)).isEmpty then 0 else 1) < 30)) = true
  simp [hl]
theorem meth_eq {ea : Expr} {m : Str} {apos pos : Pos} {args : List Expr} {env : PySem.Env} (hs : isSup ea = false) (ha : args.all notStar = true) (hn : args.length < 30) (hl : (apos.endLine == pos.line) = true) : eval (.Call (.Attribute ea m apos) args [] pos) env = (do
      let ov ← eval ea env
      standAt apos.atName
      let (f, first) ← holding [ov] (getMethod ov m (plainOf ea env))
      callWith pos f first (backTo pos (starEach args env)) (backToKw pos (keywordEach [] env))) := by
  rw [arm_eval_Call, base_of hs]
  congr 1
  funext ov
  congr 1
  funext _
  exact mcall_line (form_ok ha hn) hl
theorem mc_ok {X : Cx} {o : Expr} {nm : Str} {apos : Pos} {e : Expr} {es : List Expr} {cpos : Pos} (hs : isSup o = false) (ha : (e :: es).all notStar = true) (hn : (e :: es).length < 30) (hl : (apos.endLine == cpos.line) = true) : MC X o nm apos e es cpos where
  base := base_of hs
  few := form_ok ha hn
  line := hl
  st := star_cons (by simp only [List.all_cons, Bool.and_eq_true] at ha; exact ha.1)
  plain := star_all (by simp only [List.all_cons, Bool.and_eq_true] at ha; exact ha.2)
/-- a test is its value's truth -/
def plainTest : Expr → Bool
  | .BoolOp _ _ _ => false
  | .UnaryOp _ _ _ => false
  | .Compare _ _ _ _ => false
  | .Constant _ _ _ => false
  | .IfExp _ _ _ _ => false
  | .NamedExpr _ _ _ => false
  | _ => true
theorem test_eq {e : Expr} {env : PySem.Env} (h : plainTest e = true) (whole : Sem Value) : isTrue e env whole = (do let v ← whole; standAt e.pos; holding [v] (truthy v)) := by
  cases e <;> first | rfl | cases h
def isComp : Expr → Bool
  | .ListComp _ _ _ _ => true
  | .SetComp _ _ _ _ => true
  | .DictComp _ _ _ _ _ => true
  | _ => false
theorem swaps_no {v : Expr} {t : Option Expr} {line : Nat} {env : PySem.Env} (h : isComp v = false) : swapsWith v t line env = pure false := by
  cases v <;> first | rfl | cases h
def isName : Expr → Bool
  | .Name _ _ => true
  | _ => false
theorem swaps_other {v t : Expr} {line : Nat} {env : PySem.Env} (h : isName t = false) : swapsWith v (some t) line env = pure false := by
  cases v <;> first | rfl | (cases t <;> first | rfl | cases h)
/-- the list is stored within the comprehension's own run -/
def swB (sc : Scope) (t : Str) (pt : Pos) (v : Expr) (scope : Scope) (kind : Bool) : Bool := kind && sc.names.lookup t == some .local && pt.line == v.pos.line && !(scope.names.any fun (n, k) => n == t && (k == .local || k == .cell))
def plainIt : Expr → Bool
  | .Set _ _ _ => false
  | _ => true
theorem fold_no {e : Expr} {env : PySem.Env} (h : plainIt e = true) (x : Value) : foldedSetIterable e env x = pure x := by
  cases e <;> first | rfl | cases h
theorem marks_no {op : CmpOp} {e : Expr} (h : plainIt e = true) : behindInMarks op e = false := by
  cases e <;> first | rfl | cases h
theorem last_no {o1 o2 : CmpOp} {a b : Expr} (h : plainIt b = true) : lastMarks [o1, o2] [a, b] = false := marks_no h
def notSlice : Expr → Bool
  | .Slice _ _ _ _ => false
  | _ => true
theorem aug_eq {i : Expr} (h : notSlice i = true) (ov iv new : Value) : augStore i ov iv new = (do holding [new, ov, iv] (setItem ov iv new); release [new, ov, iv] []; pure .next) := by
  cases i <;> first | rfl | cases h
def isTupE : Expr → Bool
  | .Tuple _ _ _ => true
  | _ => false
theorem stores_no {ts : List Expr} {v : Expr} {env : PySem.Env} (h : isTupE v = false) : swappedStores ts v env = pure none := by
  cases v <;> first | (rcases ts with _ | ⟨t, _ | ⟨t2, r⟩⟩ <;> first | rfl | (cases t <;> rfl)) | cases h
theorem swaps_name {elt : Expr} {gs : List Comprehension} {sc : Scope} {p : Pos} {t : Str} {pt : Pos} {line : Nat} {env : PySem.Env} : swapsWith (.ListComp elt gs sc p) (some (.Name t pt)) line env = pure (env.blockKind == .function && env.kindOf t == some .local && pt.line == p.line && !(sc.names.any fun (n, k) => n == t && (k == .local || k == .cell))) := rfl
theorem swaps_nameD {kx vx : Expr} {gs : List Comprehension} {sc : Scope} {p : Pos} {t : Str} {pt : Pos} {line : Nat} {env : PySem.Env} : swapsWith (.DictComp kx vx gs sc p) (some (.Name t pt)) line env = pure (env.blockKind == .function && env.kindOf t == some .local && pt.line == p.line && !(sc.names.any fun (n, k) => n == t && (k == .local || k == .cell))) := rfl
theorem stores_par {x y : Str} {px py pt pt2 : Pos} {kt k2 : Nat} {a b : Expr} {env : PySem.Env} (hk : env.blockKind = .function) (hx : env.scope.names.lookup x = some .local) (hy : env.scope.names.lookup y = some .local) (hl : (py.line == px.line) = true) (hne : (x == y) = false) (hne2 : (y == x) = false) (ha : notStar a = true) (hb : notStar b = true)
    (hf : [a, b].all (foldedForSure 8) = false) (hc : [a, b].all (constantsAlone 8) = false) : swappedStores [.Tuple [.Name x px, .Name y py] kt pt] (.Tuple [a, b] k2 pt2) env = pure (some [x, y]) := by
  have s1 : ∀ e : Expr, notStar e = true → (match e with | .Starred .. => true | _ => false) = false := by intro e h; cases e <;> first | rfl | cases h
  have hx' : env.kindOf x = some .local := hx
  have hy' : env.kindOf y = some .local := hy
  have l1 : (Expr.Name x px).pos.line = px.line := rfl
  unfold swappedStores
  simp only [List.length_cons, List.length_nil, hk, List.any_cons, List.any_nil, s1 a ha, s1 b hb, List.filterMap_cons, List.filterMap_nil, hx', hy', hf, hc, List.head?_cons, Option.map_some, Option.getD_some, l1, beq_self_eq_true, hl, Bool.and_true, Bool.true_and, if_true, List.eraseDups_cons, List.filter_cons, List.filter_nil, hne, hne2, List.eraseDups_nil]
  rw [if_neg (by decide), if_neg (fun z => ?_)]
  · rfl
  · rw [Bool.or_eq_true, Bool.or_eq_true] at z
    rcases z with z | z | z
    · exact Bool.noConfusion ((s1 a ha).symm.trans z)
    · exact Bool.noConfusion ((s1 b hb).symm.trans z)
    · exact Bool.noConfusion z
/-- a pair of names of which one is no plain local -/
def celB (sc : Scope) : List Expr → Bool
  | [.Name x _, .Name y _] => !(sc.names.lookup x == some .local) || !(sc.names.lookup y == some .local)
  | _ => false
theorem stores_cel {ts : List Expr} {kt : Nat} {pt : Pos} {v : Expr} {env : PySem.Env} (h : celB env.scope ts = true) : swappedStores [.Tuple ts kt pt] v env = pure none := by
  unfold celB at h
  split at h
  · rename_i x px y py
    cases v with
    | Tuple vs k2 pt2 =>
      have hn : ((([Expr.Name x px, Expr.Name y py].filterMap fun
        | .Name id pos => if env.kindOf id == some .local && pos.line == px.line then some id else none
        | _ => none).length != [Expr.Name x px, Expr.Name y py].length) = true) := by
        have e1 : env.kindOf x = env.scope.names.lookup x := rfl
        have e2 : env.kindOf y = env.scope.names.lookup y := rfl
        simp only [List.filterMap_cons, List.filterMap_nil, e1, e2]
        simp only [Bool.or_eq_true, Bool.not_eq_true'] at h
        rcases h with h | h
        · rw [h]
          simp only [Bool.false_and, Bool.false_eq_true, if_false]
          split <;> simp
        · rw [h]
          simp only [Bool.false_and, Bool.false_eq_true, if_false]
          split <;> simp
      unfold swappedStores
      simp only []
      split
      · rfl
      · split
        · rfl
        · show (if (_ || _) = true then _ else _) = _
          rw [if_pos (by rw [Bool.or_eq_true]; exact .inl hn)]
    | _ => rfl
  · cases h
theorem ix_plain {b : Expr} (h : notSlice b = true) : PlainIx b := by
  intro o i
  cases b <;> first | rfl | cases h
end CF
/-! CFChk -/
/-! The written program against the small language. -/
namespace CF
open PySem PySem.Spec L2
/-- a name that may be stored through a cell -/
def cellB : Option Scope → Str → Bool
  | none, _ => true
  | some s, x => s.names.lookup x == some NameKind.cell
/-- what is known of a context, ahead of any run -/
structure CtxK (X : Cx) (W : Wld) (n : Nat) (Wx : WX) (N : List Str) (sc : Scope) (own : Option Scope) : Prop where
  cx : CxOk X W n Wx
  hN : X.N = N
  hsc : X.env.scope = sc
  kind : sc.kind = .function
  fn : ∀ x, cellB own x = true → X.fn x = true
section
variable {X : Cx} {W : Wld} {n : Nat} {Wx : WX} {N : List Str} {sc : Scope} {own : Option Scope}
theorem CtxK.calm (k : CtxK X W n Wx N sc own) : X.calm = true := k.cx.calm
theorem CtxK.nd (k : CtxK X W n Wx N sc own) : X.N.Nodup := k.cx.nd
/-- a comprehension's block -/
theorem CtxK.blk (k : CtxK X W n Wx N sc own) {scope : Scope} (hk : (relS scope sc).kind = .function) (s : Shared) (H : Hp) (C : Addr) (cl : List (Str × Addr)) (fp : List Addr) : CtxK (X.blk s H scope (compEnvC scope cl C X.env) fp) W n WF0 N (relS scope sc) (some scope) where
  cx := ⟨⟨k.cx.xw.P, k.cx.xw.w, k.cx.xw.K, k.cx.xw.mg, k.cx.xw.room, k.cx.xw.ok⟩, k.cx.calm, k.cx.wok, k.cx.nd, takes0N, k.cx.room, PassesOwn.never, k.cx.fns⟩
  hN := k.hN
  hsc := by rw [← k.hsc]; rfl
  kind := hk
  fn := fun x h => h
/-- a try's body -/
theorem CtxK.tr (k : CtxK X W n Wx N sc own) {W' : WX} {pn : List (Addr × Obj)} {xe : Value → Shared → Prop} (tk : L2N.Takes (X.tr pn xe) W') (po : PassesOwn (model X.prog X.w) X.A X.env xe) : CtxK (X.tr pn xe) W n W' N sc own where
  cx := ⟨⟨k.cx.xw.P, k.cx.xw.w, k.cx.xw.K, k.cx.xw.mg, k.cx.xw.room, k.cx.xw.ok⟩, k.cx.calm, k.cx.wok, k.cx.nd, tk, k.cx.room, po, k.cx.fns⟩
  hN := k.hN
  hsc := k.hsc
  kind := k.kind
  fn := k.fn
/-! ### names -/
def visB (sc : Scope) (x : Str) : Bool := sc.names.lookup x == some .local || sc.names.lookup x == some .cell || sc.names.lookup x == some .free
def locB (sc : Scope) (x : Str) : Bool := sc.names.lookup x == some .local || sc.names.lookup x == some .cell
def glB (sc : Scope) (x : Str) : Bool := sc.names.lookup x == some .globalImplicit
def okNm (x : Str) : Bool := !(x == ("__debug__" : Str)) && !(x == ("__classdict__" : Str))
def stoB (sc : Scope) (own : Option Scope) (x : Str) : Bool := cellB own x || sc.names.lookup x == some .local
def slotB (N : List Str) (i : Nat) (x : Str) : Bool := N[i]? == some x
theorem vis_of (k : CtxK X W n Wx N sc own) {x : Str} (h : visB sc x = true) : Vis X.env.scope x := by
  rw [k.hsc]
  simp only [visB, Bool.or_eq_true, beq_iff_eq] at h
  rcases h with (h | h) | h
  · exact .inl h
  · exact .inr (.inl h)
  · exact .inr (.inr h)
theorem loc_of (k : CtxK X W n Wx N sc own) {x : Str} (h : locB sc x = true) : Loc X.env.scope x := by
  rw [k.hsc]
  simp only [locB, Bool.or_eq_true, beq_iff_eq] at h
  exact h
theorem gl_of (k : CtxK X W n Wx N sc own) {x : Str} (h : glB sc x = true) : Gl X x := by
  show X.env.scope.names.lookup x = _
  rw [k.hsc]
  simpa only [glB, beq_iff_eq] using h
theorem sto_of (k : CtxK X W n Wx N sc own) {x : Str} (h : stoB sc own x = true) : X.fn x = true ∨ X.env.scope.names.lookup x = some .local := by
  rw [k.hsc]
  simp only [stoB, Bool.or_eq_true] at h
  rcases h with h | h
  · exact .inl (k.fn x h)
  · exact .inr (by simpa using h)
theorem slot_of (k : CtxK X W n Wx N sc own) {x : Str} {i : Nat} (h : slotB N i x = true) : X.N[i]? = some x := by
  rw [k.hN]
  simpa only [slotB, beq_iff_eq] using h
theorem nm_of {x : Str} (h : okNm x = true) : (x == ("__debug__" : Str)) = false ∧ (x == ("__classdict__" : Str)) = false := by
  simp only [okNm, Bool.and_eq_true, Bool.not_eq_true'] at h
  exact h
/-! ### the names' tables, closed -/
structure Nms where
  gn : Nat → Str
  isG : Nat → Bool
  cn : Nat → Str
  mn : Nat → Str
  an : Nat → Str
  gc : Str → Option D
  /-- built-in names that the module does not hide -/
  bi : Str → Bool
  isC : Nat → Bool
  hasInit : Nat → Bool
  exf : Nat → Option (List Nat)
  only : Nat → Bool
  kd : Str → Option (List (List Nat × D))
  hs : Nat → Option HSt := fun _ => none
/-- the tables are the world's -/
structure NmsOk2 (M : Nms) (W : Wld) : Prop where
  gn : W.gn = M.gn
  isG : W.isG = M.isG
  cn : W.cn = M.cn
  mn : W.mn = M.mn
  an : W.an = M.an
  gc : W.gc = M.gc
  kd : W.kd = M.kd
  bi : ∀ x, M.bi x = true → W.mg x = none
  isC : W.T.isC = M.isC
  clsC : ∀ c, W.T.isC c = true → ∃ C, W.cls c = some C
  hasInit : ∀ c, M.hasInit c = true → ∃ f, W.T.init c = some f
  exf : W.T.exf = M.exf
  hs : W.hs = M.hs
  only : ∀ h, M.only h = true → ∀ c, (W.T.exf c).isSome = true → W.T.sup c h = true → c = h
mutual
def eqC : D → D → Bool
  | .non, .non => true
  | .bl a, .bl b => a == b
  | .int a, .int b => a == b
  | .str a, .str b => a == b
  | .tup a, .tup b => eqCs a b
  | _, _ => false
def eqCs : List D → List D → Bool
  | [], [] => true
  | a :: r, b :: t => eqC a b && eqCs r t
  | _, _ => false
end
def eqK : Option (List (List Nat × D)) → List (List Nat × D) → Bool
  | some l, m => decide (l.map (·.1) = m.map (·.1)) && eqCs (l.map (·.2)) (m.map (·.2))
  | none, _ => false
/-- a text of the program, sign by sign -/
def strD (x : Str) : D := .str x.cps.toList
def okCps (x : Str) : Bool := x.cps.toList.all fun c => decide (c < 0x110000)
def constB (M : Nms) (sc : Scope) (d : D) : Expr → Bool
  | .Constant .none _ _ => eqC d .non
  | .Constant (.bool b) _ _ => eqC d (.bl b)
  | .Constant (.int i) _ _ => eqC d (.int i)
  | .Constant (.str x) _ _ => eqC d (strD x) && okCps x
  | .Name x _ => glB sc x && (match M.gc x with | some d' => eqC d d' | none => false)
  | _ => false
def chkNms (N : List Str) (sc : Scope) (own : Option Scope) : List Nat → List Expr → Bool
  | [], [] => true
  | i :: is, .Name x _ :: es => slotB N i x && locB sc x && stoB sc own x && chkNms N sc own is es
  | _, _ => false
def chkPat (N : List Str) (sc : Scope) (own : Option Scope) : Pat → Expr → Bool
  | .nm i, .Name x _ => slotB N i x && locB sc x && stoB sc own x
  | .tp is, .Tuple es _ _ => chkNms N sc own is es
  | _, _ => false
def uOf : I → Bool
  | .en _ => true
  | _ => false
def isTp : Pat → Bool
  | .tp _ => true
  | _ => false
def opE : Operator → Op2 → Bool
  | .Add, .add => true
  | .Sub, .sub => true
  | .Mult, .mul => true
  | .Mod, .mod => true
  | .FloorDiv, .fdiv => true
  | .Pow, .pow => true
  | _, _ => false
def cmE : CmpOp → Cm → Bool
  | .Eq, .eq => true
  | .NotEq, .ne => true
  | .Lt, .lt => true
  | .LtE, .le => true
  | .Gt, .gt => true
  | .GtE, .ge => true
  | .Is, .isN => true
  | .IsNot, .notN => true
  | .In, .inn => true
  | .NotIn, .nin => true
  | _, _ => false
/-- as a test, the value is asked for its truth, or its own rule stands -/
def tstE : E → Expr → Bool
  | .nt a, x => match x with
    | .UnaryOp .Not y _ => tstE a y
    | _ => false
  | .and a b, x => match x with
    | .BoolOp .And [l, r] _ => tstE a l && tstE b r
    | .BoolOp .And (l :: r :: r2 :: rest) p => tstE a l && tstE b (.BoolOp .And (r :: r2 :: rest) p)
    | _ => false
  | .or a b, x => match x with
    | .BoolOp .Or [l, r] _ => tstE a l && tstE b r
    | .BoolOp .Or (l :: r :: r2 :: rest) p => tstE a l && tstE b (.BoolOp .Or (r :: r2 :: rest) p)
    | _ => false
  | .cmp _ _ _, _ => true
  | .chn _ _ _ _ _, _ => true
  | _, x => plainTest x
/-- the arguments' form -/
def argsB (l : List Expr) : Bool := !l.isEmpty && l.all notStar && decide (l.length < 30)
def tyStr : Ty → Option (Str × String)
  | .bool => some ("bool", "bool")
  | .int => some ("int", "int")
  | .str => some ("str", "str")
  | .tuple => some ("tuple", "tuple")
  | .list => some ("list", "list")
  | .dict => some ("dict", "dict")
  | .own _ => none
/-- a call within a call: its inner arguments -/
def nestB (M : Nms) (sc : Scope) : Pr → Expr → Option (List Expr)
  | .lenSet, .Call (.Name y _) [.Call (.Name z _) [e] [] _] [] _ => if y == ("len" : Str) && z == ("set" : Str) && M.bi y && M.bi z && glB sc y && glB sc z && notStar e then some [e] else none
  | .sortedSet, .Call (.Name y _) [.Call (.Name z _) [e] [] _] [] _ => if y == ("sorted" : Str) && z == ("set" : Str) && M.bi y && M.bi z && glB sc y && glB sc z && notStar e then some [e] else none
  | .sortedSum, .Call (.Name y _) [e] [⟨some z, .Name v _, _⟩] _ => if y == ("sorted" : Str) && z == ("key" : Str) && v == ("sum" : Str) && M.bi y && M.bi v && glB sc y && glB sc v && notStar e then some [e] else none
  | .listRange, .Call (.Name y _) [.Call (.Name z _) [e] [] _] [] _ => if y == ("list" : Str) && z == ("range" : Str) && M.bi y && M.bi z && glB sc y && glB sc z && notStar e then some [e] else none
  | .dictZip, .Call (.Name y _) [.Call (.Name z _) [e, f] [] _] [] _ => if y == ("dict" : Str) && z == ("zip" : Str) && M.bi y && M.bi z && glB sc y && glB sc z && notStar e && notStar f then some [e, f] else none
  | _, _ => none
mutual
def chkE (M : Nms) (N : List Str) : E → Scope → Option Scope → Expr → Bool
  | .var i, sc, _, x => match x with
    | .Name y _ => slotB N i y && visB sc y && okNm y
    | _ => false
  | .cst d, sc, _, x => constB M sc d x
  | .tup es, sc, own, x => match x with
    | .Tuple l _ _ => chkAs M N es sc own l
    | _ => false
  | .bin op a b, sc, own, x => match x with
    | .BinOp l o r _ => opE o op && chkE M N a sc own l && chkE M N b sc own r
    | _ => false
  | .neg a, sc, own, x => match x with
    | .UnaryOp .USub y _ => chkE M N a sc own y
    | _ => false
  | .nt a, sc, own, x => match x with
    | .UnaryOp .Not y _ => chkE M N a sc own y
    | _ => false
  | .and a b, sc, own, x => match x with
    | .BoolOp .And [l, r] _ => chkE M N a sc own l && chkE M N b sc own r
    | .BoolOp .And (l :: r :: r2 :: rest) p => chkE M N a sc own l && chkE M N b sc own (.BoolOp .And (r :: r2 :: rest) p)
    | _ => false
  | .or a b, sc, own, x => match x with
    | .BoolOp .Or [l, r] _ => chkE M N a sc own l && chkE M N b sc own r
    | .BoolOp .Or (l :: r :: r2 :: rest) p => chkE M N a sc own l && chkE M N b sc own (.BoolOp .Or (r :: r2 :: rest) p)
    | _ => false
  | .cmp op a b, sc, own, x => match x with
    | .Compare l [o] [r] _ => cmE o op && plainIt r && chkE M N a sc own l && chkE M N b sc own r
    | _ => false
  | .chn o1 o2 a b c, sc, own, x => match x with
    | .Compare l [p1, p2] [m, r] _ => cmE p1 o1 && cmE p2 o2 && plainIt r && chkE M N a sc own l && chkE M N b sc own m && chkE M N c sc own r
    | _ => false
  | .ite c a b, sc, own, x => match x with
    | .IfExp y l r _ => tstE c y && chkE M N c sc own y && chkE M N a sc own l && chkE M N b sc own r
    | _ => false
  | .call f es, sc, own, x => match x with
    | .Call (.Name y _) l [] _ => M.isG f && y == M.gn f && glB sc y && okNm y && (l.isEmpty || argsB l) && chkAs M N es sc own l
    | _ => false
  | .meth m o es, sc, own, x => match x with
    | .Call (.Attribute eo y ap) l [] p => y == M.mn m && !isSup eo && (l.isEmpty || argsB l) && (ap.endLine == p.line) && chkE M N o sc own eo && chkAs M N es sc own l
    | _ => false
  | .new c es, sc, own, x => match x with
    | .Call (.Name y _) l [] _ => M.hasInit c && y == M.cn c && glB sc y && okNm y && argsB l && chkAs M N es sc own l
    | _ => false
  | .prm p es, sc, own, x => match nestB M sc p x with
    | some l => chkAs M N es sc own l
    | none => match x with
    | .Call (.Name y _) l [] _ => (match primF p with | some (z, _) => y == z | none => false) && M.bi y && glB sc y && argsB l && chkAs M N es sc own l
    | _ => false
  | .bme b o es, sc, own, x => match x with
    | .Call (.Attribute eo y ap) l [] p => y == bmN b && !isSup eo && (l.isEmpty || argsB l) && (ap.endLine == p.line) && chkE M N o sc own eo && chkAs M N es sc own l
    | _ => false
  | .mut m o es, sc, own, x => match x with
    | .Call (.Attribute eo y ap) l [] p => y == muN m && !isSup eo && (l.isEmpty || argsB l) && (ap.endLine == p.line) && chkE M N o sc own eo && chkAs M N es sc own l
    | _ => false
  | .att a o, sc, own, x => match x with
    | .Attribute eo y _ => y == M.an a && !isSup eo && chkE M N o sc own eo
    | _ => false
  | .sub o i, sc, own, x => match x with
    | .Subscript l r _ => notSlice r && chkE M N o sc own l && chkE M N i sc own r
    | _ => false
  | .slc o lo hi, sc, own, x => match x with
    | .Subscript l (.Slice elo ehi none _) _ => chkE M N o sc own l && chkO M N lo sc own elo && chkO M N hi sc own ehi
    | _ => false
  | .fr f, sc, own, x => chkF M N f sc own x
  | .al f, sc, own, x => chkF M N f sc own x
  | .isi o t, sc, own, x => match x with
    | .Call (.Name y _) [eo, .Name z _] [] _ => y == ("isinstance" : Str) && M.bi y && glB sc y && glB sc z && okNm z && notStar eo && chkE M N o sc own eo && (match t with
      | .own c => M.isC c && z == M.cn c
      | t => (match tyStr t with | some (w, _) => z == w && M.bi z | none => false))
    | _ => false
  | .fst es, sc, own, x => match x with
    | .JoinedStr l _ => decide (2 ≤ l.length) && chkFs M N es sc own l
    | _ => false
  | .exf _ _, _, _, _ => false
  | .hx _, _, _, _ => false
  | .kin t e, sc, own, x => match x with
    | .Compare l [.In] [.Name y _] _ => glB sc y && eqK (M.kd y) t && chkE M N e sc own l
    | _ => false
  | .ksb t e, sc, own, x => match x with
    | .Subscript (.Name y _) r _ => glB sc y && eqK (M.kd y) t && notSlice r && chkE M N e sc own r
    | _ => false
  | .dead, _, _, _ => true
def chkAs (M : Nms) (N : List Str) : As → Scope → Option Scope → List Expr → Bool
  | .nil, _, _, l => l.isEmpty
  | .cons e es, sc, own, l => match l with
    | x :: r => notStar x && chkE M N e sc own x && chkAs M N es sc own r
    | [] => false
  | .star e es, sc, own, l => match l with
    | .Starred x _ :: r => chkE M N e sc own x && chkAs M N es sc own r
    | _ => false
def chkFs (M : Nms) (N : List Str) : As → Scope → Option Scope → List Expr → Bool
  | .nil, _, _, l => l.isEmpty
  | .cons e es, sc, own, l => match l with
    | .FormattedValue y c none _ :: r => (c == -1) && chkE M N e sc own y && chkFs M N es sc own r
    | .Constant (.str s) k p :: r => chkE M N e sc own (.Constant (.str s) k p) && chkFs M N es sc own r
    | _ => false
  | .star _ _, _, _, _ => false
def chkO (M : Nms) (N : List Str) : Oe → Scope → Option Scope → Option Expr → Bool
  | .no, _, _, x => x.isNone
  | .so e, sc, own, x => match x with
    | some y => chkE M N e sc own y
    | none => false
def chkIfs (M : Nms) (N : List Str) : Oe → Scope → Option Scope → List Expr → Bool
  | .no, _, _, l => l.isEmpty
  | .so e, sc, own, l => match l with
    | [y] => tstE e y && chkE M N e sc own y
    | _ => false
def chkI (M : Nms) (N : List Str) : I → Scope → Option Scope → Expr → Bool
  | .sq e, sc, own, x => chkE M N e sc own x
  | .rg es, sc, own, x => match x with
    | .Call (.Name y _) l [] _ => y == ("range" : Str) && M.bi y && glB sc y && argsB l && decide (l.length ≤ 2) && chkAs M N es sc own l
    | _ => false
  | .en e, sc, own, x => match x with
    | .Call (.Name y _) [z] [] _ => y == ("enumerate" : Str) && M.bi y && glB sc y && notStar z && chkE M N e sc own z
    | _ => false
  | .ky _, _, _, _ => false
def chkF (M : Nms) (N : List Str) : F → Scope → Option Scope → Expr → Bool
  | .lst es, sc, own, x => match x with
    | .List l _ => chkAs M N es sc own l
    | _ => false
  | .cat a b, sc, own, x => match x with
    | .BinOp l .Add r _ => chkE M N a sc own l && chkE M N b sc own r
    | _ => false
  | .cp p it c e, sc, own, x => match x with
    | .ListComp elt [⟨tg, iter, ifs, 0⟩] scope _ => plainIt iter && (!uOf it || isTp p) && blkC N sc scope ((slotsP p).map fun i => (N.getD i ⟨#[]⟩, i)) && chkPat N (relS scope sc) (some scope) p tg && chkI M N it sc own iter && chkIfs M N c (relS scope sc) (some scope) ifs && chkE M N e (relS scope sc) (some scope) elt
    | _ => false
  | .cp2 p it q it2 e, sc, own, x => match x with
    | .ListComp elt [⟨tg, iter, [], 0⟩, ⟨tg2, iter2, [], 0⟩] scope _ => plainIt iter && plainIt iter2 && (!uOf it || isTp p) && (!uOf it2 || isTp q) && blkC N sc scope ((slotsP p ++ slotsP q).map fun i => (N.getD i ⟨#[]⟩, i)) &&
        chkPat N (relS scope sc) (some scope) p tg && chkPat N (relS scope sc) (some scope) q tg2 && chkI M N it sc own iter && chkI M N it2 (relS scope sc) (some scope) iter2 && chkE M N e (relS scope sc) (some scope) elt
    | _ => false
  | .dn _, _, _, x => match x with
    | .Dict [] [] _ => true
    | _ => false
  | .dd z e, sc, own, x => match x with
    | .Dict [some (.Constant (.str y) _ _)] [ev] _ => z == y.cps.toList && okCps y && chkE M N e sc own ev
    | _ => false
  | .d1 k v, sc, own, x => match x with
    | .Dict [some kx] [ev] _ => chkE M N k sc own kx && chkE M N v sc own ev
    | _ => false
  | .dcp p it k v, sc, own, x => match x with
    | .DictComp kx vx [⟨tg, iter, [], 0⟩] scope _ => plainIt iter && (!uOf it || isTp p) && blkC N sc scope ((slotsP p).map fun i => (N.getD i ⟨#[]⟩, i)) && chkPat N (relS scope sc) (some scope) p tg && chkI M N it sc own iter && chkE M N k (relS scope sc) (some scope) kx && chkE M N v (relS scope sc) (some scope) vx
    | _ => false
  | .pr p es, sc, own, x => match nestB M sc p x with
    | some l => chkAs M N es sc own l
    | none => match x with
    | .Call (.Name y _) l [] _ => (match primF p with | some (z, _) => y == z | none => false) && M.bi y && glB sc y && argsB l && chkAs M N es sc own l
    | _ => false
end
end
end CF
/-! CFChkE -/
/-! The checker of expressions is sound. -/
namespace CF
open PySem PySem.Spec L2
section
variable {M : Nms} {W : Wld} {n : Nat} {N : List Str}
theorem look_of {X : Cx} {Wx : WX} {sc : Scope} {own : Option Scope} (k : CtxK X W n Wx N sc own) {g0 : Gh} {H0 : Hp} : ∀ {e : E} {x : Expr}, chkE M N e sc own x = true → PE X x (tM W g0 H0 Wx (ev W.T (callN W.T n) e)) → PE X x (tMT W g0 H0 Wx (evT W.T (callN W.T n) e)) := by
  intro e x h p
  cases e with
  | var i =>
    simp only [chkE] at h
    split at h
    · simp only [Bool.and_eq_true] at h
      exact cf_varT (slot_of k h.1.1) (vis_of k h.1.2) (nm_of h.2).1 (nm_of h.2).2
    · cases h
  | _ =>
    refine pe_look ?_
    refine (congrArg (fun m => PE X x (tM W g0 H0 Wx m)) ?_).mp p
    funext env s
    simp only [evT]
mutual
theorem eqC_eq : ∀ {a b : D}, eqC a b = true → a = b
  | .non, b, h => by cases b <;> first | rfl | (simp [eqC] at h)
  | .bl a, b, h => by cases b <;> simp_all [eqC]
  | .int a, b, h => by cases b <;> simp_all [eqC]
  | .str a, b, h => by cases b <;> simp_all [eqC]
  | .tup a, b, h => by
    cases b with
    | tup b => rw [eqCs_eq (a := a) (b := b) (by simpa only [eqC] using h)]
    | _ => simp [eqC] at h
  | .lst _, b, h => by simp [eqC] at h
  | .dct _, b, h => by simp [eqC] at h
  | .ref _, b, h => by simp [eqC] at h
  | .scr _, b, h => by simp [eqC] at h
theorem eqCs_eq : ∀ {a b : List D}, eqCs a b = true → a = b
  | [], b, h => by cases b <;> first | rfl | (simp [eqCs] at h)
  | x :: r, b, h => by
    cases b with
    | nil => simp [eqCs] at h
    | cons y t =>
      simp only [eqCs, Bool.and_eq_true] at h
      rw [eqC_eq h.1, eqCs_eq h.2]
end
theorem toS_cps (x : Str) : toS x.cps.toList = x := by
  cases x; simp [toS]
theorem okCps_ok {x : Str} (h : okCps x = true) : okS x.cps.toList := fun c hc => by
  have q := List.all_eq_true.mp h c hc
  simpa using q
theorem const_ok {X : Cx} {Wx : WX} {sc : Scope} {own : Option Scope} (mk : NmsOk2 M W) (k : CtxK X W n Wx N sc own) {g0 : Gh} {H0 : Hp} {d : D} {x : Expr} (h : constB M sc d x = true) : PE X x (tM W g0 H0 Wx (ev W.T (callN W.T n) (.cst d))) := by
  unfold constB at h
  split at h
  · rw [eqC_eq h]; exact cf_const pe_non fun _ _ => trivial
  · rw [eqC_eq h]; exact cf_const pe_bl fun _ _ => rfl
  · rw [eqC_eq h]; exact cf_const pe_int fun _ _ => rfl
  · simp only [Bool.and_eq_true] at h
    rw [eqC_eq h.1]
    exact cf_const pe_str fun _ _ => ⟨(toS_cps _).symm, okCps_ok h.2⟩
  · simp only [Bool.and_eq_true] at h
    obtain ⟨h1, h2⟩ := h
    split at h2
    · rename_i d' hd
      rw [eqC_eq h2]
      obtain ⟨v, u, e1, e2, e3, e4⟩ := k.cx.wok.gc _ d' (by rw [mk.gc]; exact hd)
      exact cf_const (pe_glob (gl_of k h1) (by rw [k.cx.xw.mg]; exact e1) e2 e3) e4
    · cases h2
  · cases h
theorem opE_eq {o : Operator} {op : Op2} (h : opE o op = true) : o = opM op := by
  cases op <;> cases o <;> first | rfl | cases h
theorem cmE_eq {o : CmpOp} {op : Cm} (h : cmE o op = true) : o = opC op := by
  cases op <;> cases o <;> first | rfl | cases h
/-- the last operand alone -/
theorem pe_and1 {X : Cx} {e : Expr} {p : Pos} {t : TE} (h : PE X e t) : PE X (.BoolOp .And [e] p) t := ⟨fun pins s σ H Q I q => h.run pins s σ H Q I q⟩
theorem pe_or1 {X : Cx} {e : Expr} {p : Pos} {t : TE} (h : PE X e t) : PE X (.BoolOp .Or [e] p) t := ⟨fun pins s σ H Q I q => h.run pins s σ H Q I q⟩
/-- expressions: what is checked is so -/
def OkE (M : Nms) (W : Wld) (n : Nat) (N : List Str) (e : E) : Prop := ∀ (X : Cx) (Wx : WX) (sc : Scope) (own : Option Scope), CtxK X W n Wx N sc own → ∀ x, chkE M N e sc own x = true → ∀ g0 H0, PE X x (tM W g0 H0 Wx (ev W.T (callN W.T n) e))
theorem ok_var {i : Nat} : OkE M W n N (.var i) := fun X Wx sc own k x h g0 H0 => by
  simp only [chkE] at h
  split at h
  · simp only [Bool.and_eq_true] at h
    exact cf_var (slot_of k h.1.1) (vis_of k h.1.2) (nm_of h.2).1 (nm_of h.2).2
  · cases h
theorem ok_bin {op : Op2} {a b : E} (ha : OkE M W n N a) (hb : OkE M W n N b) : OkE M W n N (.bin op a b) := fun X Wx sc own k x h g0 H0 => by
  simp only [chkE] at h
  split at h
  · simp only [Bool.and_eq_true] at h
    rw [opE_eq h.1.1]
    exact cf_bin k.cx.xw op (look_of k h.1.2 (ha X Wx sc own k _ h.1.2 g0 H0)) (look_of k h.2 (hb X Wx sc own k _ h.2 g0 H0))
  · cases h
theorem ok_neg {a : E} (ha : OkE M W n N a) : OkE M W n N (.neg a) := fun X Wx sc own k x h g0 H0 => by
  simp only [chkE] at h
  split at h
  · exact cf_neg (ha X Wx sc own k _ h g0 H0)
  · cases h
theorem ok_nt {a : E} (ha : OkE M W n N a) : OkE M W n N (.nt a) := fun X Wx sc own k x h g0 H0 => by
  simp only [chkE] at h
  split at h
  · exact cf_nt (ha X Wx sc own k _ h g0 H0)
  · cases h
theorem ok_and {a b : E} (ha : OkE M W n N a) (hb : OkE M W n N b) : OkE M W n N (.and a b) := fun X Wx sc own k x h g0 H0 => by
  simp only [chkE] at h
  split at h
  · simp only [Bool.and_eq_true] at h
    exact cf_and (ha X Wx sc own k _ h.1 g0 H0) (pe_and1 (hb X Wx sc own k _ h.2 g0 H0))
  · simp only [Bool.and_eq_true] at h
    exact cf_and (ha X Wx sc own k _ h.1 g0 H0) (hb X Wx sc own k _ h.2 g0 H0)
  · cases h
theorem ok_or {a b : E} (ha : OkE M W n N a) (hb : OkE M W n N b) : OkE M W n N (.or a b) := fun X Wx sc own k x h g0 H0 => by
  simp only [chkE] at h
  split at h
  · simp only [Bool.and_eq_true] at h
    exact cf_or (ha X Wx sc own k _ h.1 g0 H0) (pe_or1 (hb X Wx sc own k _ h.2 g0 H0))
  · simp only [Bool.and_eq_true] at h
    exact cf_or (ha X Wx sc own k _ h.1 g0 H0) (hb X Wx sc own k _ h.2 g0 H0)
  · cases h
theorem ok_sub {a b : E} (ha : OkE M W n N a) (hb : OkE M W n N b) : OkE M W n N (.sub a b) := fun X Wx sc own k x h g0 H0 => by
  simp only [chkE] at h
  split at h
  · simp only [Bool.and_eq_true] at h
    exact cf_sub k.cx.xw (ix_plain h.1.1) (look_of k h.1.2 (ha X Wx sc own k _ h.1.2 g0 H0)) (hb X Wx sc own k _ h.2 g0 H0)
  · cases h
theorem ok_att (mk : NmsOk2 M W) {i : Nat} {a : E} (ha : OkE M W n N a) : OkE M W n N (.att i a) := fun X Wx sc own k x h g0 H0 => by
  simp only [chkE] at h
  split at h
  · simp only [Bool.and_eq_true, Bool.not_eq_true', beq_iff_eq] at h
    obtain ⟨⟨h1, h2⟩, h3⟩ := h
    rw [h1, ← mk.an]
    exact cf_att k.cx (ha X Wx sc own k _ h3 g0 H0) (base_of h2)
  · cases h
/-- lists of arguments -/
def OkAs (M : Nms) (W : Wld) (n : Nat) (N : List Str) (es : As) : Prop := ∀ (X : Cx) (Wx : WX) (sc : Scope) (own : Option Scope), CtxK X W n Wx N sc own → ∀ l, chkAs M N es sc own l = true → ∀ g0 H0, PA X l (tMA W g0 H0 Wx (evs W.T (callN W.T n) es))
theorem oka_nil : OkAs M W n N .nil := fun X Wx sc own k l h g0 H0 => by
  simp only [chkAs] at h
  cases l with
  | nil => exact ca_nil
  | cons _ _ => cases h
theorem oka_cons {e : E} {es : As} (he : OkE M W n N e) (hes : OkAs M W n N es) : OkAs M W n N (.cons e es) := fun X Wx sc own k l h g0 H0 => by
  simp only [chkAs] at h
  split at h
  · simp only [Bool.and_eq_true] at h
    exact ca_cons (star_cons h.1.1) (he X Wx sc own k _ h.1.2 g0 H0) (hes X Wx sc own k _ h.2 g0 H0)
  · cases h
theorem oka_star {e : E} {es : As} (he : OkE M W n N e) (hes : OkAs M W n N es) : OkAs M W n N (.star e es) := fun X Wx sc own k l h g0 H0 => by
  simp only [chkAs] at h
  split at h
  · simp only [Bool.and_eq_true] at h
    exact ca_star k.cx.xw star_star (look_of k h.1 (he X Wx sc own k _ h.1 g0 H0)) (hes X Wx sc own k _ h.2 g0 H0)
  · cases h
theorem ok_tup {es : As} (h1 : OkAs M W n N es) : OkE M W n N (.tup es) := fun X Wx sc own k x h g0 H0 => by
  simp only [chkE] at h
  split at h
  · exact cf_tup (h1 X Wx sc own k _ h g0 H0)
  · cases h
theorem args_of {l : List Expr} (h : argsB l = true) : ∃ e r, l = e :: r ∧ notStar e = true ∧ r.all notStar = true ∧ l.length < 30 ∧ l.all notStar = true := by
  cases l with
  | nil => cases h
  | cons e r =>
    simp only [argsB, Bool.and_eq_true, decide_eq_true_eq] at h
    have q := h.1.2
    simp only [List.all_cons, Bool.and_eq_true] at q
    exact ⟨e, r, rfl, q.1, q.2, h.2, h.1.2⟩
theorem ok_call (mk : NmsOk2 M W) {f : Nat} {es : As} (h1 : OkAs M W n N es) : OkE M W n N (.call f es) := fun X Wx sc own k x h g0 H0 => by
  simp only [chkE] at h
  split at h
  · rename_i y p l pos
    simp only [Bool.and_eq_true, beq_iff_eq] at h
    obtain ⟨⟨⟨⟨⟨hG, hy⟩, hg⟩, hn⟩, hl⟩, ha⟩ := h
    have pa := h1 X Wx sc own k l ha g0 H0
    rw [← mk.isG] at hG
    rw [← mk.gn] at hy
    subst hy
    cases l with
    | nil =>
      cases es with
      | nil => exact cf_call0 k.cx hG (gl_of k hg) (nm_of hn).1
      | _ => simp [chkAs] at ha
    | cons e r =>
      have hl' : argsB (e :: r) = true := by simpa using hl
      obtain ⟨e', r', eq, q1, q2, _, _⟩ := args_of hl'
      cases eq
      exact cf_call k.cx hG (gl_of k hg) (nm_of hn).1 pa (star_cons q1) (star_all q2)
  · cases h
theorem ok_meth (mk : NmsOk2 M W) {m : Nat} {o : E} {es : As} (ho : OkE M W n N o) (h1 : OkAs M W n N es) : OkE M W n N (.meth m o es) := fun X Wx sc own k x h g0 H0 => by
  simp only [chkE] at h
  split at h
  · rename_i eo y ap l pos
    simp only [Bool.and_eq_true, beq_iff_eq, Bool.not_eq_true'] at h
    obtain ⟨⟨⟨⟨⟨hy, hs⟩, hl⟩, hp⟩, hc⟩, ha⟩ := h
    have pa := h1 X Wx sc own k l ha g0 H0
    have po := ho X Wx sc own k eo hc g0 H0
    rw [← mk.mn] at hy
    subst hy
    cases l with
    | nil =>
      cases es with
      | nil => exact cf_meth0 k.cx po (meth_eq hs rfl (by decide) (by simpa using hp))
      | _ => simp [chkAs] at ha
    | cons e r =>
      have hl' : argsB (e :: r) = true := by simpa using hl
      obtain ⟨e', r', eq, q1, q2, q3, q4⟩ := args_of hl'
      cases eq
      exact cf_meth k.cx po pa (star_cons q1) (star_all q2) (meth_eq hs q4 q3 (by simpa using hp))
  · cases h
theorem ok_new (mk : NmsOk2 M W) {c : Nat} {es : As} (h1 : OkAs M W n N es) : OkE M W n N (.new c es) := fun X Wx sc own k x h g0 H0 => by
  simp only [chkE] at h
  split at h
  · rename_i y p l pos
    simp only [Bool.and_eq_true, beq_iff_eq] at h
    obtain ⟨⟨⟨⟨⟨hi, hy⟩, hg⟩, hn⟩, hl⟩, ha⟩ := h
    have pa := h1 X Wx sc own k l ha g0 H0
    obtain ⟨f, hf⟩ := mk.hasInit c hi
    rw [← mk.cn] at hy
    subst hy
    obtain ⟨e, r, eq, q1, q2, _, _⟩ := args_of hl
    subst eq
    exact cf_new k.cx hf (gl_of k hg) (nm_of hn).1 pa (star_cons q1) (star_all q2)
  · cases h
end
end CF
/-! CFChkE2 -/
/-! The checker of expressions is sound: tests, built-ins, what is walked, what is new. -/
namespace CF
open PySem PySem.Spec L2
section
variable {M : Nms} {W : Wld} {n : Nat} {N : List Str}
/-- the same, or nothing at all -/
theorem Aft.sub {α : Type} {g0 : Gh} {H0 : Hp} {Wx : WX} {env : Env} {σ : St} {g : Gh} {r r' : R α} {F : α → Sto → Gh → Hp → Prop} (h : Aft W g0 H0 Wx env σ g r F) (e : r = r' ∨ r = .bad) : Aft W g0 H0 Wx env σ g r' F := by
  rcases e with e | e
  · rwa [e] at h
  · rw [e] at h; exact h.elim
theorem bind_sub {α β : Type} (r : R α) {f f' : α → Sto → R β} (h : ∀ a s, f a s = f' a s ∨ f a s = .bad) : r.bind f = r.bind f' ∨ r.bind f = .bad := by
  cases r with
  | ok a s => exact h a s
  | exc c fs s => exact .inl rfl
  | bad => exact .inl rfl
theorem asB_sub {r r' : R D} (h : r = r' ∨ r = .bad) : asB r = asB r' ∨ asB r = .bad := by
  rcases h with h | h
  · exact .inl (by rw [h])
  · exact .inr (by rw [h]; rfl)
theorem prm_eq {p : Pr} {es : As} (h : p ≠ .len) : ev W.T (callN W.T n) (.prm p es) = fun env s => (evTs W.T (callN W.T n) es env s).bind fun ds s => R.of (prim s p ds) s := by
  funext env s; simp only [ev, prmR_not h]
theorem nest_len {sc : Scope} {x : Expr} {l : List Expr} {p : Pr} (h : nestB M sc p x = some l) : p ≠ .len := fun e => by
  subst e
  simp [nestB] at h
theorem tM_sub {g0 : Gh} {H0 : Hp} {Wx : WX} {m m' : Env → Sto → R D} (h : ∀ env s, m env s = m' env s ∨ m env s = .bad) {σ : St} {H : Hp} {Q : VK} (t : tM W g0 H0 Wx m σ H Q) : tM W g0 H0 Wx m' σ H Q := by
  obtain ⟨env, st, g, si, af⟩ := t
  exact ⟨env, st, g, si, af.sub (h env st)⟩
theorem tMB_sub {g0 : Gh} {H0 : Hp} {Wx : WX} {m m' : Env → Sto → R D} (h : ∀ env s, m env s = m' env s ∨ m env s = .bad) {σ : St} {H : Hp} {Q : Bool → Hp → Prop} (t : tMB W g0 H0 Wx m σ H Q) : tMB W g0 H0 Wx m' σ H Q := by
  obtain ⟨env, st, g, si, af⟩ := t
  exact ⟨env, st, g, si, af.sub (asB_sub (h env st))⟩
/-! ### tests -/
def isBO : Expr → Bool
  | .BoolOp _ _ _ => true
  | _ => false
def OkT (M : Nms) (W : Wld) (n : Nat) (N : List Str) (e : E) : Prop := ∀ (X : Cx) (Wx : WX) (sc : Scope) (own : Option Scope), CtxK X W n Wx N sc own → ∀ x, chkE M N e sc own x = true → tstE e x = true → ∀ g0 H0,
  PT X x (tMB W g0 H0 Wx (ev W.T (callN W.T n) e)) ∧ (isBO x = true → PW X x (tMB W g0 H0 Wx (ev W.T (callN W.T n) e)))
theorem plain_bo {x : Expr} (h : plainTest x = true) : isBO x = false := by
  cases x <;> first | rfl | cases h
theorem okt_plain {e : E} (h : OkE M W n N e) (ht : ∀ x, tstE e x = plainTest x) : OkT M W n N e := fun X Wx sc own k x hc hx g0 H0 => by
  rw [ht] at hx
  refine ⟨pt_cf (h X Wx sc own k x hc g0 H0) (fun whole => test_eq (env := X.env) hx whole), fun hb => ?_⟩
  rw [plain_bo hx] at hb; cases hb
theorem okt_nt {a : E} (ha : OkT M W n N a) : OkT M W n N (.nt a) := fun X Wx sc own k x hc hx g0 H0 => by
  simp only [chkE] at hc
  split at hc
  · simp only [tstE] at hx
    exact ⟨ct_nt (ha X Wx sc own k _ hc hx g0 H0).1, fun hb => by cases hb⟩
  · cases hc
theorem okt_and {a b : E} (ha : OkT M W n N a) (hb : OkT M W n N b) : OkT M W n N (.and a b) := fun X Wx sc own k x hc hx g0 H0 => by
  simp only [chkE] at hc
  split at hc
  · simp only [tstE, Bool.and_eq_true] at hx hc
    have q := fun p => ct_and (pos := p) (ha X Wx sc own k _ hc.1 hx.1 g0 H0).1 (pw_and1 (hb X Wx sc own k _ hc.2 hx.2 g0 H0).1)
    exact ⟨(q _).pt, fun _ => q _⟩
  · simp only [tstE, Bool.and_eq_true] at hx hc
    have q := ct_and (ha X Wx sc own k _ hc.1 hx.1 g0 H0).1 ((hb X Wx sc own k _ hc.2 hx.2 g0 H0).2 rfl)
    exact ⟨q.pt, fun _ => q⟩
  · cases hc
theorem okt_or {a b : E} (ha : OkT M W n N a) (hb : OkT M W n N b) : OkT M W n N (.or a b) := fun X Wx sc own k x hc hx g0 H0 => by
  simp only [chkE] at hc
  split at hc
  · simp only [tstE, Bool.and_eq_true] at hx hc
    have q := fun p => ct_or (pos := p) (ha X Wx sc own k _ hc.1 hx.1 g0 H0).1 (pw_or1 (hb X Wx sc own k _ hc.2 hx.2 g0 H0).1)
    exact ⟨(q _).pt, fun _ => q _⟩
  · simp only [tstE, Bool.and_eq_true] at hx hc
    have q := ct_or (ha X Wx sc own k _ hc.1 hx.1 g0 H0).1 ((hb X Wx sc own k _ hc.2 hx.2 g0 H0).2 rfl)
    exact ⟨q.pt, fun _ => q⟩
  · cases hc
theorem ok_cmp (mk : NmsOk2 M W) {op : Cm} {a b : E} (ha : OkE M W n N a) (hb : OkE M W n N b) : OkE M W n N (.cmp op a b) := fun X Wx sc own k x h g0 H0 => by
  simp only [chkE] at h
  split at h
  · simp only [Bool.and_eq_true] at h
    rw [cmE_eq h.1.1.1]
    exact cf_cmpO k.cx op (marks_no h.1.1.2) (look_of k h.1.2 (ha X Wx sc own k _ h.1.2 g0 H0)) (look_of k h.2 (hb X Wx sc own k _ h.2 g0 H0))
  · cases h
theorem okt_cmp (mk : NmsOk2 M W) {op : Cm} {a b : E} (ha : OkE M W n N a) (hb : OkE M W n N b) : OkT M W n N (.cmp op a b) := fun X Wx sc own k x h hx g0 H0 => by
  simp only [chkE] at h
  split at h
  · simp only [Bool.and_eq_true] at h
    rw [cmE_eq h.1.1.1]
    exact ⟨ct_cmpO k.cx op (marks_no h.1.1.2) (look_of k h.1.2 (ha X Wx sc own k _ h.1.2 g0 H0)) (look_of k h.2 (hb X Wx sc own k _ h.2 g0 H0)), fun hb => by cases hb⟩
  · cases h
theorem ok_chn {o1 o2 : Cm} {a b c : E} (ha : OkE M W n N a) (hb : OkE M W n N b) (hc : OkE M W n N c) : OkE M W n N (.chn o1 o2 a b c) := fun X Wx sc own k x h g0 H0 => by
  simp only [chkE] at h
  split at h
  · simp only [Bool.and_eq_true] at h
    rw [cmE_eq h.1.1.1.1.1, cmE_eq h.1.1.1.1.2]
    exact cf_chn k.cx.xw o1 o2 (last_no h.1.1.1.2) (ha X Wx sc own k _ h.1.1.2 g0 H0) (hb X Wx sc own k _ h.1.2 g0 H0) (hc X Wx sc own k _ h.2 g0 H0)
  · cases h
theorem okt_chn {o1 o2 : Cm} {a b c : E} (ha : OkE M W n N a) (hb : OkE M W n N b) (hc : OkE M W n N c) : OkT M W n N (.chn o1 o2 a b c) := fun X Wx sc own k x h hx g0 H0 => by
  simp only [chkE] at h
  split at h
  · simp only [Bool.and_eq_true] at h
    rw [cmE_eq h.1.1.1.1.1, cmE_eq h.1.1.1.1.2]
    exact ⟨ct_chn k.cx.xw o1 o2 (last_no h.1.1.1.2) (ha X Wx sc own k _ h.1.1.2 g0 H0) (hb X Wx sc own k _ h.1.2 g0 H0) (hc X Wx sc own k _ h.2 g0 H0), fun hb => by cases hb⟩
  · cases h
theorem ok_ite {c a b : E} (hc : OkT M W n N c) (ha : OkE M W n N a) (hb : OkE M W n N b) : OkE M W n N (.ite c a b) := fun X Wx sc own k x h g0 H0 => by
  simp only [chkE] at h
  split at h
  · simp only [Bool.and_eq_true] at h
    exact cf_ite (hc X Wx sc own k _ h.1.1.2 h.1.1.1 g0 H0).1 (ha X Wx sc own k _ h.1.2 g0 H0) (hb X Wx sc own k _ h.2 g0 H0)
  · cases h
theorem ok_dead : OkE M W n N .dead := fun X Wx sc own k x h g0 H0 => ⟨fun pins s σ H Q I ⟨env, st, g, si, af⟩ => by
  simp only [ev] at af
  exact af.elim⟩
/-! ### arguments that are looked at -/
def OkAT (M : Nms) (W : Wld) (n : Nat) (N : List Str) (es : As) : Prop := ∀ (X : Cx) (Wx : WX) (sc : Scope) (own : Option Scope), CtxK X W n Wx N sc own → ∀ l, chkAs M N es sc own l = true → ∀ g0 H0, PA X l (tMAT W g0 H0 Wx (evTs W.T (callN W.T n) es))
theorem okat_nil : OkAT M W n N .nil := fun X Wx sc own k l h g0 H0 => by
  simp only [chkAs] at h
  cases l with
  | nil => exact caT_nil
  | cons _ _ => cases h
theorem okat_cons {e : E} {es : As} (he : OkE M W n N e) (hes : OkAT M W n N es) : OkAT M W n N (.cons e es) := fun X Wx sc own k l h g0 H0 => by
  simp only [chkAs] at h
  split at h
  · simp only [Bool.and_eq_true] at h
    exact caT_cons (star_cons h.1.1) (look_of k h.1.2 (he X Wx sc own k _ h.1.2 g0 H0)) (hes X Wx sc own k _ h.2 g0 H0)
  · cases h
theorem okat_star {e : E} {es : As} : OkAT M W n N (.star e es) := fun X Wx sc own k l h g0 H0 => ⟨fun pos pins s σ H Q I ⟨env, st, g, si, af⟩ => by
  simp only [evTs] at af
  exact af.elim⟩
theorem evTs_len : ∀ {es : As} {sc : Scope} {own : Option Scope} {l : List Expr}, chkAs M N es sc own l = true → ∀ {C : CallF} {env s ds s'}, evTs W.T C es env s = .ok ds s' → ds.length = l.length
  | .nil, sc, own, l, h, C, env, s, ds, s', e => by
    simp only [chkAs] at h
    cases l with
    | nil => simp only [evTs] at e; cases e; rfl
    | cons _ _ => cases h
  | .cons a es, sc, own, l, h, C, env, s, ds, s', e => by
    simp only [chkAs] at h
    split at h
    · simp only [Bool.and_eq_true] at h
      simp only [evTs] at e
      cases h1 : evT W.T C a env s with
      | ok d s1 =>
        rw [h1] at e
        simp only [CF.R.bind] at e
        cases h2 : evTs W.T C es env s1 with
        | ok ds1 s2 =>
          rw [h2] at e
          simp only [CF.R.ok.injEq] at e
          obtain ⟨e, _⟩ := e
          subst e
          simp only [List.length_cons, evTs_len h.2 h2]
        | exc _ _ _ => rw [h2] at e; cases e
        | bad => rw [h2] at e; cases e
      | exc _ _ _ => rw [h1] at e; cases e
      | bad => rw [h1] at e; cases e
    · cases h
  | .star a es, sc, own, l, h, C, env, s, ds, s', e => by
    simp only [evTs] at e; cases e
/-- the meaning alone -/
abbrev ev' (W : Wld) (n : Nat) (e : E) : Env → Sto → R D := ev W.T (callN W.T n) e
theorem nest_ok (mk : NmsOk2 M W) {p : Pr} {es : As} (h1 : OkAT M W n N es) {X : Cx} {Wx : WX} {sc : Scope} {own : Option Scope} (k : CtxK X W n Wx N sc own) {x : Expr} {l : List Expr} (hb : nestB M sc p x = some l) (h : chkAs M N es sc own l = true) (g0 : Gh) (H0 : Hp) :
    PE X x (tMF W g0 H0 Wx (fun env s => (evTs W.T (callN W.T n) es env s).bind fun ds s => R.of (prim s p ds) s)) := by
  have pa := h1 X Wx sc own k l h g0 H0
  have bi : ∀ y, M.bi y = true → X.mg y = none := fun y hy => by rw [k.cx.xw.mg]; exact mk.bi _ hy
  unfold nestB at hb
  split at hb
  · split at hb <;> cases hb
    rename_i c
    simp only [Bool.and_eq_true, beq_iff_eq] at c
    obtain ⟨⟨⟨⟨⟨⟨a, b⟩, c1⟩, c2⟩, d1⟩, d2⟩, ns⟩ := c
    subst a b
    exact cf_lenS k.cx.xw k.calm (gl_of k d1) (bi _ c1) (gl_of k d2) (bi _ c2) pa (star_cons ns)
  · split at hb <;> cases hb
    rename_i c
    simp only [Bool.and_eq_true, beq_iff_eq] at c
    obtain ⟨⟨⟨⟨⟨⟨a, b⟩, c1⟩, c2⟩, d1⟩, d2⟩, ns⟩ := c
    subst a b
    exact cf_sortS k.cx.xw k.calm (gl_of k d1) (bi _ c1) (gl_of k d2) (bi _ c2) pa (star_cons ns)
  · split at hb <;> cases hb
    rename_i c
    simp only [Bool.and_eq_true, beq_iff_eq] at c
    obtain ⟨⟨⟨⟨⟨⟨⟨a, b⟩, v⟩, c1⟩, c2⟩, d1⟩, d2⟩, ns⟩ := c
    subst a b v
    exact cf_sortSum k.cx.xw k.calm (gl_of k d1) (bi _ c1) (gl_of k d2) (bi _ c2) pa (star_cons ns)
  · split at hb <;> cases hb
    rename_i c
    simp only [Bool.and_eq_true, beq_iff_eq] at c
    obtain ⟨⟨⟨⟨⟨⟨a, b⟩, c1⟩, c2⟩, d1⟩, d2⟩, ns⟩ := c
    subst a b
    exact cf_listRg k.cx.xw k.calm (gl_of k d1) (bi _ c1) (gl_of k d2) (bi _ c2) pa (star_cons ns)
  · split at hb <;> cases hb
    rename_i c
    simp only [Bool.and_eq_true, beq_iff_eq] at c
    obtain ⟨⟨⟨⟨⟨⟨⟨a, b⟩, c1⟩, c2⟩, d1⟩, d2⟩, ns⟩, ns2⟩ := c
    subst a b
    exact cf_zipD k.cx.xw k.calm (gl_of k d1) (bi _ c1) (gl_of k d2) (bi _ c2) pa (star_cons ns) (star_all (by simp [ns2]))
  · cases hb
theorem ok_prm (mk : NmsOk2 M W) {p : Pr} {es : As} (h1 : OkAT M W n N es) : OkE M W n N (.prm p es) := fun X Wx sc own k x h g0 H0 => by
  simp only [chkE] at h
  split at h
  · rename_i hb
    exact (pe_new (nest_ok mk h1 k hb h g0 H0)).imp' fun σ H Q t => by rwa [prm_eq (nest_len hb)] at t
  split at h
  · rename_i y pp l pos _
    simp only [Bool.and_eq_true] at h
    obtain ⟨⟨⟨⟨hp, hbi⟩, hg⟩, hl⟩, ha⟩ := h
    split at hp
    · rename_i z f hz
      rw [beq_iff_eq] at hp
      subst hp
      have pa := h1 X Wx sc own k l ha g0 H0
      obtain ⟨e, r, eq, q1, q2, _, _⟩ := args_of hl
      subst eq
      by_cases hp : p = .len
      · subst hp
        cases hz
        exact (pe_callB (cr_lenO k.cx) (gl_of k hg) (by rw [k.cx.xw.mg]; exact mk.bi _ hbi) (by decide +kernel) pa (by decide +kernel) (by decide +kernel) (star_cons q1) (star_all q2)).imp' fun σ H Q t => imp_len t
      · exact (pe_prim k.cx.xw k.calm hz (gl_of k hg) (by rw [k.cx.xw.mg]; exact mk.bi _ hbi) pa (star_cons q1) (star_all q2)).imp' fun σ H Q t => imp_prim (by rwa [prm_eq hp] at t)
    · cases hp
  · cases h
/-! ### methods of built-in types -/
theorem ok_bme {b : Bm} {o : E} {es : As} (ho : OkE M W n N o) (h1 : OkAT M W n N es) : OkE M W n N (.bme b o es) := fun X Wx sc own k x h g0 H0 => by
  simp only [chkE] at h
  split at h
  · rename_i eo y ap l pos
    simp only [Bool.and_eq_true, beq_iff_eq, Bool.not_eq_true'] at h
    obtain ⟨⟨⟨⟨⟨hy, hs⟩, hl⟩, hp⟩, hc⟩, ha⟩ := h
    have pa := h1 X Wx sc own k l ha g0 H0
    have po := look_of k hc (ho X Wx sc own k eo hc g0 H0)
    subst hy
    cases l with
    | nil =>
      cases es with
      | nil => exact cf_bme0 k.cx.xw b (base_of hs) (by simpa using hp) po
      | _ => simp [chkAs] at ha
    | cons e r =>
      have hl' : argsB (e :: r) = true := by simpa using hl
      obtain ⟨e', r', eq, q1, q2, q3, q4⟩ := args_of hl'
      cases eq
      exact cf_bme k.cx.xw b (mc_ok hs q4 q3 (by simpa using hp)) po pa
  · cases h
theorem ok_mut {m : Mu} {o : E} {es : As} (ho : OkE M W n N o) (h1 : OkAs M W n N es) : OkE M W n N (.mut m o es) := fun X Wx sc own k x h g0 H0 => by
  simp only [chkE] at h
  split at h
  · rename_i eo y ap l pos
    simp only [Bool.and_eq_true, beq_iff_eq, Bool.not_eq_true'] at h
    obtain ⟨⟨⟨⟨⟨hy, hs⟩, hl⟩, hp⟩, hc⟩, ha⟩ := h
    have pa := h1 X Wx sc own k l ha g0 H0
    have po := ho X Wx sc own k eo hc g0 H0
    subst hy
    cases l with
    | nil =>
      cases es with
      | nil => exact cf_mut0 k.cx.xw m (base_of hs) (by simpa using hp) po
      | _ => simp [chkAs] at ha
    | cons e r =>
      have hl' : argsB (e :: r) = true := by simpa using hl
      obtain ⟨e', r', eq, q1, q2, q3, q4⟩ := args_of hl'
      cases eq
      exact cf_mut k.cx.xw m (mc_ok hs q4 q3 (by simpa using hp)) po pa
  · cases h
/-! ### slices -/
def OkO (M : Nms) (W : Wld) (n : Nat) (N : List Str) (e : Oe) : Prop := ∀ (X : Cx) (Wx : WX) (sc : Scope) (own : Option Scope), CtxK X W n Wx N sc own → ∀ x, chkO M N e sc own x = true → ∀ g0 H0, PO X x (tMO W g0 H0 Wx (evO W.T (callN W.T n) e))
theorem oko_no : OkO M W n N .no := fun X Wx sc own k x h g0 H0 => by
  simp only [chkO] at h
  cases x with
  | none => exact co_no
  | some _ => cases h
theorem oko_so {e : E} (he : OkE M W n N e) : OkO M W n N (.so e) := fun X Wx sc own k x h g0 H0 => by
  simp only [chkO] at h
  split at h
  · exact co_so (he X Wx sc own k _ h g0 H0)
  · cases h
theorem ok_slc {o : E} {lo hi : Oe} (ho : OkE M W n N o) (hl : OkO M W n N lo) (hh : OkO M W n N hi) : OkE M W n N (.slc o lo hi) := fun X Wx sc own k x h g0 H0 => by
  simp only [chkE] at h
  split at h
  · simp only [Bool.and_eq_true] at h
    exact cf_slc k.cx.xw (look_of k h.1.1 (ho X Wx sc own k _ h.1.1 g0 H0)) (hl X Wx sc own k _ h.1.2 g0 H0) (hh X Wx sc own k _ h.2 g0 H0)
  · cases h
/-! ### isinstance -/
theorem ty_ok {t : Ty} {w : Str} {b : String} (h : tyStr t = some (w, b)) : tyN t = some b ∧ bootBuiltins w = some (.type b) ∧ w ≠ "__name__" ∧ (w == ("__debug__" : Str)) = false := by
  cases t <;> simp only [tyStr] at h <;> cases h <;> exact ⟨rfl, by decide +kernel, by decide +kernel, by decide +kernel⟩
theorem ok_isi (mk : NmsOk2 M W) {o : E} {t : Ty} (ho : OkE M W n N o) : OkE M W n N (.isi o t) := fun X Wx sc own k x h g0 H0 => by
  simp only [chkE] at h
  split at h
  · rename_i y p1 eo z p2 pos
    simp only [Bool.and_eq_true, beq_iff_eq] at h
    obtain ⟨⟨⟨⟨⟨⟨⟨hy, hbi⟩, hg⟩, hgz⟩, hn⟩, hst⟩, hc⟩, ht⟩ := h
    subst hy
    have po := look_of k hc (ho X Wx sc own k eo hc g0 H0)
    have hm : X.mg ("isinstance" : Str) = none := by rw [k.cx.xw.mg]; exact mk.bi _ hbi
    split at ht
    · rename_i c
      simp only [Bool.and_eq_true, beq_iff_eq] at ht
      obtain ⟨hc1, hz⟩ := ht
      rw [← mk.isC] at hc1
      rw [← mk.cn] at hz
      subst hz
      obtain ⟨C, hC⟩ := mk.clsC c hc1
      exact cf_isiO k.cx hC hc1 (gl_of k hg) hm (gl_of k hgz) (nm_of hn).1 po (star_cons hst)
    · split at ht
      · rename_i w b hw
        simp only [Bool.and_eq_true, beq_iff_eq] at ht
        obtain ⟨hz, hbz⟩ := ht
        subst hz
        obtain ⟨q1, q2, q3, q4⟩ := ty_ok hw
        exact cf_isi k.cx.xw q1 q2 (gl_of k hg) hm (gl_of k hgz) (by rw [k.cx.xw.mg]; exact mk.bi _ hbz) q3 q4 po (star_cons hst)
      · cases ht
  · cases h
/-! ### what is walked -/
def OkI (M : Nms) (W : Wld) (n : Nat) (N : List Str) (it : I) : Prop := ∀ (X : Cx) (Wx : WX) (sc : Scope) (own : Option Scope), CtxK X W n Wx N sc own → ∀ x, chkI M N it sc own x = true → ∀ tg, (uOf it = true → isTupE tg = true) → ∀ g0 H0, PI X tg x (tI W g0 H0 Wx (uOf it) (evI W.T (callN W.T n) it))
theorem oki_sq {e : E} (he : OkE M W n N e) : OkI M W n N (.sq e) := fun X Wx sc own k x h tg ht g0 H0 => by
  simp only [chkI] at h
  exact ci_sq k.cx.xw (he X Wx sc own k _ h g0 H0)
theorem oki_rg (mk : NmsOk2 M W) {es : As} (h1 : OkAT M W n N es) : OkI M W n N (.rg es) := fun X Wx sc own k x h tg ht g0 H0 => by
  simp only [chkI] at h
  split at h
  · rename_i y p l pos
    simp only [Bool.and_eq_true, beq_iff_eq, decide_eq_true_eq] at h
    obtain ⟨⟨⟨⟨⟨hy, hbi⟩, hg⟩, hl⟩, hz⟩, ha⟩ := h
    subst hy
    have pa := h1 X Wx sc own k l ha g0 H0
    have hm : X.mg ("range" : Str) = none := by rw [k.cx.xw.mg]; exact mk.bi _ hbi
    obtain ⟨e, r, eq, q1, q2, _, _⟩ := args_of hl
    subst eq
    rcases r with _ | ⟨e2, _ | ⟨e3, r⟩⟩
    · exact ci_rg1 (gl_of k hg) hm pa (star_cons q1) fun env s ds s' q => evTs_len ha q
    · simp only [List.all_cons, Bool.and_eq_true] at q2
      exact ci_rg2 (gl_of k hg) hm pa (by rw [star_cons q1, star_cons q2.1]; rfl) (star_cons q2.1) fun env s ds s' q => evTs_len ha q
    · simp at hz
  · cases h
theorem oki_en (mk : NmsOk2 M W) {e : E} (he : OkE M W n N e) : OkI M W n N (.en e) := fun X Wx sc own k x h tg ht g0 H0 => by
  simp only [chkI] at h
  split at h
  · rename_i y p z pos
    simp only [Bool.and_eq_true, beq_iff_eq] at h
    obtain ⟨⟨⟨⟨hy, hbi⟩, hg⟩, hz⟩, ha⟩ := h
    subst hy
    have hm : X.mg ("enumerate" : Str) = none := by rw [k.cx.xw.mg]; exact mk.bi _ hbi
    have hT := ht rfl
    cases tg with
    | Tuple elts kk tpos => exact ci_en k.cx.xw (gl_of k hg) hm (he X Wx sc own k _ ha g0 H0) (star_cons hz)
    | _ => cases hT
  · cases h
theorem oki_ky {i : Nat} : OkI M W n N (.ky i) := fun X Wx sc own k x h tg ht g0 H0 => by
  simp only [chkI] at h; cases h
/-! ### targets -/
theorem nms_ok {X : Cx} {Wx : WX} {sc : Scope} {own : Option Scope} (k : CtxK X W n Wx N sc own) : ∀ {is : List Nat} {es : List Expr}, chkNms N sc own is es = true → NmsOk X is es
  | [], [], _ => .nil
  | [], _ :: _, h => by simp [chkNms] at h
  | i :: is, [], h => by simp [chkNms] at h
  | i :: is, e :: es, h => by
    unfold chkNms at h
    split at h
    · rename_i e1 e2
      cases e1
    · rename_i i2 is2 x p es2 e1 e2
      cases e1
      cases e2
      simp only [Bool.and_eq_true] at h
      exact .cons (slot_of k h.1.1.1) (loc_of k h.1.1.2) (sto_of k h.1.2) (nms_ok k h.2)
    · cases h
theorem pat_ok {X : Cx} {Wx : WX} {sc : Scope} {own : Option Scope} (k : CtxK X W n Wx N sc own) {p : Pat} {x : Expr} (h : chkPat N sc own p x = true) (g0 : Gh) (H0 : Hp) : PG X x (tB W g0 H0 p) := by
  unfold chkPat at h
  split at h
  · simp only [Bool.and_eq_true] at h
    exact cg_nm k.nd (slot_of k h.1.1) (loc_of k h.1.2) (sto_of k h.2)
  · exact cg_tp k.cx.xw k.calm k.nd (nms_ok k h)
  · cases h
theorem pat_tup {sc : Scope} {own : Option Scope} {p : Pat} {x : Expr} (h : chkPat N sc own p x = true) (ht : isTp p = true) : isTupE x = true ∧ ∃ is, p = .tp is := by
  cases p with
  | nm i => cases ht
  | tp is =>
    unfold chkPat at h
    split at h
    · rename_i e; cases e
    · exact ⟨rfl, is, rfl⟩
    · cases h
/-! ### what is new -/
def OkF (M : Nms) (W : Wld) (n : Nat) (N : List Str) (f : F) : Prop := ∀ (X : Cx) (Wx : WX) (sc : Scope) (own : Option Scope), CtxK X W n Wx N sc own → ∀ x, chkF M N f sc own x = true → ∀ g0 H0, PE X x (tMF W g0 H0 Wx (evF W.T (callN W.T n) f))
theorem okf_lst {es : As} (h1 : OkAs M W n N es) : OkF M W n N (.lst es) := fun X Wx sc own k x h g0 H0 => by
  simp only [chkF] at h
  split at h
  · exact cf_lst (h1 X Wx sc own k _ h g0 H0)
  · cases h
theorem okf_cat {a b : E} (ha : OkE M W n N a) (hb : OkE M W n N b) : OkF M W n N (.cat a b) := fun X Wx sc own k x h g0 H0 => by
  simp only [chkF] at h
  split at h
  · simp only [Bool.and_eq_true] at h
    exact cf_cat k.cx.xw (look_of k h.1 (ha X Wx sc own k _ h.1 g0 H0)) (look_of k h.2 (hb X Wx sc own k _ h.2 g0 H0))
  · cases h
theorem okf_dn {t : Bool} : OkF M W n N (.dn t) := fun X Wx sc own k x h g0 H0 => by
  simp only [chkF] at h
  split at h
  · exact pe_dnewK.imp' fun σ H Q ⟨env, st, g, si, af⟩ => by
      simp only [evF] at af
      exact fun p hp => finD si af hp (.inl ⟨[], rfl, .nil, List.nodup_nil⟩)
  · cases h
theorem okf_pr (mk : NmsOk2 M W) {p : Pr} {es : As} (h1 : OkAT M W n N es) : OkF M W n N (.pr p es) := fun X Wx sc own k x h g0 H0 => by
  simp only [chkF] at h
  split at h
  · rename_i hb
    refine (congrArg (fun m => PE X x (tMF W g0 H0 Wx m)) ?_).mp (nest_ok mk h1 k hb h g0 H0)
    funext env s
    simp only [evF]
  split at h
  · rename_i y pp l pos _
    simp only [Bool.and_eq_true] at h
    obtain ⟨⟨⟨⟨hp, hbi⟩, hg⟩, hl⟩, ha⟩ := h
    split at hp
    · rename_i z f hz
      rw [beq_iff_eq] at hp
      subst hp
      have pa := h1 X Wx sc own k l ha g0 H0
      obtain ⟨e, r, eq, q1, q2, _, _⟩ := args_of hl
      subst eq
      exact cf_prF k.cx.xw k.calm hz (gl_of k hg) (by rw [k.cx.xw.mg]; exact mk.bi _ hbi) pa (star_cons q1) (star_all q2)
    · cases hp
  · cases h
theorem okf_d1 {a b : E} (ha : OkE M W n N a) (hb : OkE M W n N b) : OkF M W n N (.d1 a b) := fun X Wx sc own k x h g0 H0 => by
  simp only [chkF] at h
  split at h
  · rename_i kx ev pos
    simp only [Bool.and_eq_true] at h
    refine (congrArg (fun m => PE X _ (tMF W g0 H0 Wx m)) ?_).mp (cf_disp1 (mk := ev' W n a) (mv := ev' W n b) k.cx.xw (fun g0 H0 => ha X Wx sc own k _ h.1 g0 H0) fun g0 H0 => hb X Wx sc own k _ h.2 g0 H0)
    funext env s
    simp only [evF]
  · cases h
theorem okf_dd {z : List Nat} {e : E} (he : OkE M W n N e) : OkF M W n N (.dd z e) := fun X Wx sc own k x h g0 H0 => by
  simp only [chkF] at h
  split at h
  · rename_i y _ _ ev pos
    simp only [Bool.and_eq_true, beq_iff_eq] at h
    obtain ⟨⟨h1, h2⟩, h3⟩ := h
    subst h1
    refine (congrArg (fun m => PE X _ (tMF W g0 H0 Wx m)) ?_).mp (cf_disp (m := ev' W n e) (okCps_ok h2) (by rw [toS_cps]; exact pe_str) fun g0 H0 => he X Wx sc own k _ h3 g0 H0)
    funext env s
    simp only [evF]
  · cases h
/-- the tests of a clause -/
def OkIf (M : Nms) (W : Wld) (n : Nat) (N : List Str) (c : Oe) : Prop := ∀ (X : Cx) (sc : Scope) (own : Option Scope), CtxK X W n WF0 N sc own → ∀ l, chkIfs M N c sc own l = true → PTs X l (tCx W (evC W.T (callN W.T n) c))
theorem okif_no : OkIf M W n N .no := fun X sc own k l h => by
  simp only [chkIfs] at h
  cases l with
  | nil => exact pts_no
  | cons _ _ => cases h
theorem okif_so {e : E} (he : OkT M W n N e) : OkIf M W n N (.so e) := fun X sc own k l h => by
  simp only [chkIfs] at h
  split at h
  · simp only [Bool.and_eq_true] at h
    exact pts_so fun g0 H0 => (he X WF0 sc own k _ h.2 h.1 g0 H0).1
  · cases h
theorem map_snd {l : List Nat} {f : Nat → Str} : (l.map fun i => (f i, i)).map (·.2) = l := by
  rw [List.map_map]
  exact List.map_id' l
theorem blk_kind {sc scope : Scope} {own : List (Str × Nat)} (h : blkC N sc scope own = true) : (relS scope sc).kind = .function := (blkOk_by h).1
theorem okf_cp {p : Pat} {it : I} {c : Oe} {e : E} (hi : OkI M W n N it) (hc : OkIf M W n N c) (he : OkE M W n N e) : OkF M W n N (.cp p it c e) := fun X Wx sc own k x h g0 H0 => by
  simp only [chkF] at h
  split at h
  · rename_i elt tg iter ifs scope pos
    simp only [Bool.and_eq_true, Bool.or_eq_true, Bool.not_eq_true'] at h
    obtain ⟨⟨⟨⟨⟨⟨hpl, hu⟩, hb⟩, hp⟩, hit⟩, hif⟩, hel⟩ := h
    have hu' : uOf it = true → isTp p = true := fun z => by rcases hu with q | q; · rw [q] at z; cases z
                                                            · exact q
    exact cf_lc ⟨k.calm, k.nd, fun z => (pat_tup hp (hu' z)).2, map_snd, by rw [k.hN, k.hsc]; exact blkOk_by hb, hi X Wx sc own k _ hit _ (fun z => (pat_tup hp (hu' z)).1) g0 H0,
      fun s H C cl fp g0 H0 => pat_ok (k.blk (blk_kind hb) s H C cl fp) hp g0 H0,
      fun s H C cl fp => hc _ _ _ (k.blk (blk_kind hb) s H C cl fp) _ hif,
      fun s H C cl fp g0 H0 => he _ _ _ _ (k.blk (blk_kind hb) s H C cl fp) _ hel g0 H0, fun x => fold_no hpl x⟩
  · cases h
theorem okf_cp2 {p q : Pat} {it it2 : I} {e : E} (hi : OkI M W n N it) (hi2 : OkI M W n N it2) (he : OkE M W n N e) : OkF M W n N (.cp2 p it q it2 e) := fun X Wx sc own k x h g0 H0 => by
  simp only [chkF] at h
  split at h
  · rename_i elt tg iter tg2 iter2 scope pos
    simp only [Bool.and_eq_true, Bool.or_eq_true, Bool.not_eq_true'] at h
    obtain ⟨⟨⟨⟨⟨⟨⟨⟨⟨hpl, hpl2⟩, hu⟩, hu2⟩, hb⟩, hp⟩, hq⟩, hit⟩, hit2⟩, hel⟩ := h
    have hu' : uOf it = true → isTp p = true := fun z => by rcases hu with q | q; · rw [q] at z; cases z
                                                            · exact q
    have hu2' : uOf it2 = true → isTp q = true := fun z => by rcases hu2 with q | q; · rw [q] at z; cases z
                                                              · exact q
    exact cf_lc2 ⟨k.calm, k.nd, fun z => (pat_tup hp (hu' z)).2, fun z => (pat_tup hq (hu2' z)).2, map_snd (l := slotsP p ++ slotsP q), by rw [k.hN, k.hsc]; exact blkOk_by hb, hi X Wx sc own k _ hit _ (fun z => (pat_tup hp (hu' z)).1) g0 H0,
      fun s H C cl fp g0 H0 => pat_ok (k.blk (blk_kind hb) s H C cl fp) hp g0 H0,
      fun s H C cl fp g0 H0 => hi2 _ _ _ _ (k.blk (blk_kind hb) s H C cl fp) _ hit2 _ (fun z => (pat_tup hq (hu2' z)).1) g0 H0,
      fun s H C cl fp g0 H0 => pat_ok (k.blk (blk_kind hb) s H C cl fp) hq g0 H0,
      fun s H C cl fp g0 H0 => he _ _ _ _ (k.blk (blk_kind hb) s H C cl fp) _ hel g0 H0, fun x => fold_no hpl x, fun env x => fold_no hpl2 x⟩
  · cases h
theorem okf_dcp {p : Pat} {it : I} {e e2 : E} (hi : OkI M W n N it) (hk : OkE M W n N e) (hv : OkE M W n N e2) : OkF M W n N (.dcp p it e e2) := fun X Wx sc own k x h g0 H0 => by
  simp only [chkF] at h
  split at h
  · rename_i kx vx tg iter scope pos
    simp only [Bool.and_eq_true, Bool.or_eq_true, Bool.not_eq_true'] at h
    obtain ⟨⟨⟨⟨⟨⟨hpl, hu⟩, hb⟩, hp⟩, hit⟩, hkx⟩, hvx⟩ := h
    have hu' : uOf it = true → isTp p = true := fun z => by rcases hu with q | q; · rw [q] at z; cases z
                                                            · exact q
    exact cf_dc ⟨k.calm, k.nd, fun z => (pat_tup hp (hu' z)).2, map_snd, by rw [k.hN, k.hsc]; exact blkOk_by hb, hi X Wx sc own k _ hit _ (fun z => (pat_tup hp (hu' z)).1) g0 H0,
      fun s H C cl fp g0 H0 => pat_ok (k.blk (blk_kind hb) s H C cl fp) hp g0 H0,
      fun s H C cl fp g0 H0 => hk _ _ _ _ (k.blk (blk_kind hb) s H C cl fp) _ hkx g0 H0,
      fun s H C cl fp g0 H0 => hv _ _ _ _ (k.blk (blk_kind hb) s H C cl fp) _ hvx g0 H0, fun x => fold_no hpl x⟩
  · cases h
theorem ok_fr {f : F} (h1 : OkF M W n N f) : OkE M W n N (.fr f) := fun X Wx sc own k x h g0 H0 => by
  simp only [chkE] at h
  exact cf_fr (h1 X Wx sc own k x h g0 H0)
theorem ok_al {f : F} (h1 : OkF M W n N f) : OkE M W n N (.al f) := fun X Wx sc own k x h g0 H0 => by
  simp only [chkE] at h
  exact cf_al (h1 X Wx sc own k x h g0 H0)
/-! ### dicts of the module -/
theorem eqCs_eq' {a b : List D} (h : eqCs a b = true) : a = b := eqCs_eq h
theorem eqK_eq {o : Option (List (List Nat × D))} {l : List (List Nat × D)} (h : eqK o l = true) : o = some l := by
  cases o with
  | none => cases h
  | some m =>
    unfold eqK at h
    simp only [Bool.and_eq_true, decide_eq_true_eq] at h
    have h2 := eqCs_eq' h.2
    have : ∀ (m l : List (List Nat × D)), m.map (·.1) = l.map (·.1) → m.map (·.2) = l.map (·.2) → m = l := fun m => by
      induction m with
      | nil => intro l h _; cases l with
        | nil => rfl
        | cons _ _ => cases h
      | cons x m ih =>
        intro l h1 h2
        cases l with
        | nil => cases h1
        | cons z l =>
          rw [List.map_cons, List.map_cons] at h1 h2
          injection h1 with a1 a2
          injection h2 with b1 b2
          rw [ih l a2 b2, Prod.ext a1 b1]
    rw [this m l h.1 h2]
theorem ok_kin (mk : NmsOk2 M W) {t : List (List Nat × D)} {e : E} (he : OkE M W n N e) : OkE M W n N (.kin t e) := fun X Wx sc own k x h g0 H0 => by
  simp only [chkE] at h
  split at h
  · simp only [Bool.and_eq_true] at h
    exact cf_kin k.cx (by rw [mk.kd]; exact eqK_eq h.1.2) (gl_of k h.1.1) (he X Wx sc own k _ h.2 g0 H0)
  · cases h
theorem ok_ksb (mk : NmsOk2 M W) {t : List (List Nat × D)} {e : E} (he : OkE M W n N e) : OkE M W n N (.ksb t e) := fun X Wx sc own k x h g0 H0 => by
  simp only [chkE] at h
  split at h
  · simp only [Bool.and_eq_true] at h
    exact cf_ksb k.cx (by rw [mk.kd]; exact eqK_eq h.1.1.2) (gl_of k h.1.1.1) (ix_plain h.1.2) (he X Wx sc own k _ h.2 g0 H0)
  · cases h
/-! ### f-strings -/
def OkFs (M : Nms) (W : Wld) (n : Nat) (N : List Str) (es : As) : Prop := ∀ (X : Cx) (Wx : WX) (sc : Scope) (own : Option Scope), CtxK X W n Wx N sc own → ∀ l, chkFs M N es sc own l = true → ∀ g0 H0, ∃ ts, FJ X W n g0 H0 Wx es l ts
theorem okfs_nil : OkFs M W n N .nil := fun X Wx sc own k l h g0 H0 => by
  simp only [chkFs] at h
  cases l with
  | nil => exact ⟨[], .nil⟩
  | cons _ _ => cases h
theorem okfs_star {e : E} {es : As} : OkFs M W n N (.star e es) := fun X Wx sc own k l h g0 H0 => by
  simp only [chkFs] at h; cases h
theorem okfs_cons {e : E} {es : As} (he : OkE M W n N e) (hs : OkFs M W n N es) : OkFs M W n N (.cons e es) := fun X Wx sc own k l h g0 H0 => by
  simp only [chkFs] at h
  split at h
  · simp only [Bool.and_eq_true, beq_iff_eq] at h
    obtain ⟨⟨hc, h1⟩, h2⟩ := h
    subst hc
    obtain ⟨ts, q⟩ := hs X Wx sc own k _ h2 g0 H0
    exact ⟨_, .val (he X Wx sc own k _ h1 g0 H0) q⟩
  · simp only [Bool.and_eq_true] at h
    obtain ⟨ts, q⟩ := hs X Wx sc own k _ h.2 g0 H0
    exact ⟨_, .con (he X Wx sc own k _ h.1 g0 H0) q⟩
  · cases h
theorem ok_fst {es : As} (hs : OkFs M W n N es) : OkE M W n N (.fst es) := fun X Wx sc own k x h g0 H0 => by
  simp only [chkE] at h
  split at h
  · rename_i l pos
    simp only [Bool.and_eq_true, decide_eq_true_eq] at h
    obtain ⟨ts, q⟩ := hs X Wx sc own k l h.2 g0 H0
    rcases l with _ | ⟨v1, _ | ⟨v2, rest⟩⟩
    · exact absurd h.1 (by simp)
    · exact absurd h.1 (by simp)
    · exact cf_fst q
  · cases h
/-! ### all -/
mutual
theorem chkE_ok (mk : NmsOk2 M W) : ∀ e, OkE M W n N e
  | .var i => ok_var
  | .cst d => fun X Wx sc own k x h g0 H0 => const_ok mk k (by simpa only [chkE] using h)
  | .tup es => ok_tup (chkAs_ok mk es)
  | .bin op a b => ok_bin (chkE_ok mk a) (chkE_ok mk b)
  | .neg a => ok_neg (chkE_ok mk a)
  | .nt a => ok_nt (chkE_ok mk a)
  | .and a b => ok_and (chkE_ok mk a) (chkE_ok mk b)
  | .or a b => ok_or (chkE_ok mk a) (chkE_ok mk b)
  | .cmp op a b => ok_cmp mk (chkE_ok mk a) (chkE_ok mk b)
  | .chn o1 o2 a b c => ok_chn (chkE_ok mk a) (chkE_ok mk b) (chkE_ok mk c)
  | .ite c a b => ok_ite (chkT_ok mk c) (chkE_ok mk a) (chkE_ok mk b)
  | .call f es => ok_call mk (chkAs_ok mk es)
  | .meth m o es => ok_meth mk (chkE_ok mk o) (chkAs_ok mk es)
  | .new c es => ok_new mk (chkAs_ok mk es)
  | .prm p es => ok_prm mk (chkAT_ok mk es)
  | .bme b o es => ok_bme (chkE_ok mk o) (chkAT_ok mk es)
  | .mut m o es => ok_mut (chkE_ok mk o) (chkAs_ok mk es)
  | .att a o => ok_att mk (chkE_ok mk o)
  | .sub o i => ok_sub (chkE_ok mk o) (chkE_ok mk i)
  | .slc o lo hi => ok_slc (chkE_ok mk o) (chkO_ok mk lo) (chkO_ok mk hi)
  | .fr f => ok_fr (chkF_ok mk f)
  | .al f => ok_al (chkF_ok mk f)
  | .isi o t => ok_isi mk (chkE_ok mk o)
  | .fst es => ok_fst (chkFs_ok mk es)
  | .kin t e => ok_kin mk (chkE_ok mk e)
  | .ksb t e => ok_ksb mk (chkE_ok mk e)
  | .exf i a => fun X Wx sc own k x h g0 H0 => by simp only [chkE] at h; cases h
  | .hx j => fun X Wx sc own k x h g0 H0 => by simp only [chkE] at h; cases h
  | .dead => ok_dead
theorem chkT_ok (mk : NmsOk2 M W) : ∀ e, OkT M W n N e
  | .var i => okt_plain ok_var fun x => by simp only [tstE]
  | .cst d => okt_plain (fun X Wx sc own k x h g0 H0 => const_ok mk k (by simpa only [chkE] using h)) fun x => by simp only [tstE]
  | .tup es => okt_plain (ok_tup (chkAs_ok mk es)) fun x => by simp only [tstE]
  | .bin op a b => okt_plain (ok_bin (chkE_ok mk a) (chkE_ok mk b)) fun x => by simp only [tstE]
  | .neg a => okt_plain (ok_neg (chkE_ok mk a)) fun x => by simp only [tstE]
  | .nt a => okt_nt (chkT_ok mk a)
  | .and a b => okt_and (chkT_ok mk a) (chkT_ok mk b)
  | .or a b => okt_or (chkT_ok mk a) (chkT_ok mk b)
  | .cmp op a b => okt_cmp mk (chkE_ok mk a) (chkE_ok mk b)
  | .chn o1 o2 a b c => okt_chn (chkE_ok mk a) (chkE_ok mk b) (chkE_ok mk c)
  | .ite c a b => okt_plain (ok_ite (chkT_ok mk c) (chkE_ok mk a) (chkE_ok mk b)) fun x => by simp only [tstE]
  | .call f es => okt_plain (ok_call mk (chkAs_ok mk es)) fun x => by simp only [tstE]
  | .meth m o es => okt_plain (ok_meth mk (chkE_ok mk o) (chkAs_ok mk es)) fun x => by simp only [tstE]
  | .new c es => okt_plain (ok_new mk (chkAs_ok mk es)) fun x => by simp only [tstE]
  | .prm p es => okt_plain (ok_prm mk (chkAT_ok mk es)) fun x => by simp only [tstE]
  | .bme b o es => okt_plain (ok_bme (chkE_ok mk o) (chkAT_ok mk es)) fun x => by simp only [tstE]
  | .mut m o es => okt_plain (ok_mut (chkE_ok mk o) (chkAs_ok mk es)) fun x => by simp only [tstE]
  | .att a o => okt_plain (ok_att mk (chkE_ok mk o)) fun x => by simp only [tstE]
  | .sub o i => okt_plain (ok_sub (chkE_ok mk o) (chkE_ok mk i)) fun x => by simp only [tstE]
  | .slc o lo hi => okt_plain (ok_slc (chkE_ok mk o) (chkO_ok mk lo) (chkO_ok mk hi)) fun x => by simp only [tstE]
  | .fr f => okt_plain (ok_fr (chkF_ok mk f)) fun x => by simp only [tstE]
  | .al f => okt_plain (ok_al (chkF_ok mk f)) fun x => by simp only [tstE]
  | .isi o t => okt_plain (ok_isi mk (chkE_ok mk o)) fun x => by simp only [tstE]
  | .fst es => okt_plain (ok_fst (chkFs_ok mk es)) fun x => by simp only [tstE]
  | .kin t e => okt_plain (ok_kin mk (chkE_ok mk e)) fun x => by simp only [tstE]
  | .ksb t e => okt_plain (ok_ksb mk (chkE_ok mk e)) fun x => by simp only [tstE]
  | .exf i a => okt_plain (fun X Wx sc own k x h g0 H0 => by simp only [chkE] at h; cases h) fun x => by simp only [tstE]
  | .hx j => okt_plain (fun X Wx sc own k x h g0 H0 => by simp only [chkE] at h; cases h) fun x => by simp only [tstE]
  | .dead => okt_plain ok_dead fun x => by simp only [tstE]
theorem chkAs_ok (mk : NmsOk2 M W) : ∀ es, OkAs M W n N es
  | .nil => oka_nil
  | .cons e es => oka_cons (chkE_ok mk e) (chkAs_ok mk es)
  | .star e es => oka_star (chkE_ok mk e) (chkAs_ok mk es)
theorem chkFs_ok (mk : NmsOk2 M W) : ∀ es, OkFs M W n N es
  | .nil => okfs_nil
  | .cons e es => okfs_cons (chkE_ok mk e) (chkFs_ok mk es)
  | .star e es => okfs_star
theorem chkAT_ok (mk : NmsOk2 M W) : ∀ es, OkAT M W n N es
  | .nil => okat_nil
  | .cons e es => okat_cons (chkE_ok mk e) (chkAT_ok mk es)
  | .star e es => okat_star
theorem chkO_ok (mk : NmsOk2 M W) : ∀ e, OkO M W n N e
  | .no => oko_no
  | .so e => oko_so (chkE_ok mk e)
theorem chkIf_ok (mk : NmsOk2 M W) : ∀ e, OkIf M W n N e
  | .no => okif_no
  | .so e => okif_so (chkT_ok mk e)
theorem chkI_ok (mk : NmsOk2 M W) : ∀ e, OkI M W n N e
  | .sq e => oki_sq (chkE_ok mk e)
  | .rg es => oki_rg mk (chkAT_ok mk es)
  | .en e => oki_en mk (chkE_ok mk e)
  | .ky i => oki_ky
theorem chkF_ok (mk : NmsOk2 M W) : ∀ f, OkF M W n N f
  | .lst es => okf_lst (chkAs_ok mk es)
  | .cat a b => okf_cat (chkE_ok mk a) (chkE_ok mk b)
  | .cp p it c e => okf_cp (chkI_ok mk it) (chkIf_ok mk c) (chkE_ok mk e)
  | .cp2 p it q it2 e => okf_cp2 (chkI_ok mk it) (chkI_ok mk it2) (chkE_ok mk e)
  | .dn t => okf_dn
  | .dd z e => okf_dd (chkE_ok mk e)
  | .d1 k v => okf_d1 (chkE_ok mk k) (chkE_ok mk v)
  | .dcp p it k v => okf_dcp (chkI_ok mk it) (chkE_ok mk k) (chkE_ok mk v)
  | .pr p es => okf_pr mk (chkAT_ok mk es)
end
end
end CF
/-! CFChkS -/
/-! The checker of statements, and that it is sound. -/
namespace CF
open PySem PySem.Spec L2
/-- the context of a def's body -/
structure CtxS (X : Cx) (W : Wld) (n : Nat) (Wx : WX) (N : List Str) (sc : Scope) : Prop where
  k : CtxK X W n Wx N sc none
  stk : X.stack = X.env :: X.outer
  frm : X.env.frame = some X.env.locals
/-- the list takes the name's place within its own making -/
def swLc (sc : Scope) (t : Str) (pt p : Pos) (scope : Scope) : Bool := sc.names.lookup t == some .local && pt.line == p.line && !(scope.names.any fun (n, k) => n == t && (k == .local || k == .cell))
def okSw0 (sc : Scope) (t : Str) (pt : Pos) : Expr → Bool
  | .ListComp _ _ scope p => !swLc sc t pt p scope
  | .SetComp _ _ _ _ => false
  | .DictComp _ _ _ scope p => !swLc sc t pt p scope
  | _ => true
def okSw1 (sc : Scope) (t : Str) (pt : Pos) : Expr → Bool
  | .ListComp _ _ scope p => swLc sc t pt p scope
  | .DictComp _ _ _ scope p => swLc sc t pt p scope
  | _ => false
def isFr : E → Bool
  | .fr _ => true
  | _ => false
def flatPr : Pr → Bool
  | .list => true
  | .sorted => true
  | .sortedSum => true
  | .sortedSet => true
  | .dictOf => true
  | .dictZip => true
  | .listRange => true
  | _ => false
def flatF : F → Bool
  | .pr p _ => flatPr p
  | _ => true
def isFrz : S → Bool
  | .frz _ => true
  | _ => false
def chkCst (M : Nms) (d : D) : Expr → Bool
  | .Constant .none _ _ => eqC d .non
  | .Constant (.bool b) _ _ => eqC d (.bl b)
  | .Constant (.int i) _ _ => eqC d (.int i)
  | .Constant (.str x) _ _ => eqC d (strD x) && okCps x
  | _ => false
def chkHs (M : Nms) (N : List Str) (sc : Scope) : Hs → List ExceptHandler → Bool
  | .nil, l => l.isEmpty
  | .cons h n x e r, l => match l with
    | .ExceptHandler (some (.Name y _)) none [.Assign [.Name nm _] k _] _ :: t => (match n, e with
      | none, .cst d => y == M.cn h && (M.exf h).isSome && glB sc y && okNm y && slotB N x nm && sc.names.lookup nm == some .local && chkCst M d k && chkHs M N sc r t
      | _, _ => false)
    | .ExceptHandler (some (.Name y _)) (some en) [.Assign [.Name nm _] (.Attribute (.Name en2 _) f _) _] _ :: t => (match n, e with
      | some i, .exf j b => i == j && en2 == en && f == M.an b && y == M.cn h && M.exf h == some [b] && M.only h && glB sc y && okNm y && slotB N x nm && sc.names.lookup nm == some .local && slotB N i en && sc.names.lookup en == some .local && okNm en && chkHs M N sc r t
      | _, _ => false)
    | .ExceptHandler (some (.Name y _)) (some en) [.Assign [.Name nm _] (.List [k, .Attribute (.Name en2 _) f _] _) _] _ :: t => (match n, e with
      | some i, .fr (.lst (.cons (.cst d) (.cons (.exf j b) .nil))) => i == j && en2 == en && f == M.an b && y == M.cn h && M.exf h == some [b] && M.only h && glB sc y && okNm y && slotB N x nm && sc.names.lookup nm == some .local && slotB N i en && sc.names.lookup en == some .local && okNm en && chkCst M d k && notStar k && chkHs M N sc r t
      | _, _ => false)
    | .ExceptHandler (some (.Name y _)) (some en) (b₀ :: suite) _ :: t => (match n, e with
      | some i, .hx j => (match M.hs j with
        | some p => p.i == i && p.x == x && p.ok N sc (b₀ :: suite) && y == M.cn h && (M.exf h).isSome && glB sc y && okNm y && slotB N i en && sc.names.lookup en == some .local && chkHs M N sc r t
        | none => false)
      | _, _ => false)
    | _ => false
mutual
def chkS (M : Nms) (N : List Str) (sc : Scope) : S → Stmt → Bool
  | .asg p e, x => match x with
    | .Assign [tg] ee _ => (match p with
      | .nm i => (match tg with
        | .Name y pt => slotB N i y && locB sc y && chkE M N e sc none ee && (okSw0 sc y pt ee || (okSw1 sc y pt ee && isFr e))
        | _ => false)
      | .tp is => (match tg with
        | .Tuple es _ _ => chkNms N sc none is es && chkE M N e sc none ee && (!isTupE ee || celB sc es)
        | _ => false))
    | _ => false
  | .par i j a b, x => match x with
    | .Assign [.Tuple [.Name x px, .Name y py] _ _] (.Tuple [ea, eb] _ _) _ => slotB N i x && slotB N j y && !(i == j) && sc.names.lookup x == some .local && sc.names.lookup y == some .local && (py.line == px.line) && !(x == y) && !(y == x) && notStar ea && notStar eb &&
        !([ea, eb].all (foldedForSure 8)) && !([ea, eb].all (constantsAlone 8)) && chkE M N a sc none ea && chkE M N b sc none eb
    | _ => false
  | .own i f, x => match x with
    | .Assign [.Name y pt] ee _ => slotB N i y && locB sc y && flatF f && chkF M N f sc none ee && (okSw0 sc y pt ee || okSw1 sc y pt ee)
    | _ => false
  | .seta o a e, x => match x with
    | .Assign [.Attribute eo y _] ee _ => y == M.an a && chkE M N o sc none eo && chkE M N e sc none ee
    | _ => false
  | .seti o i e, x => match x with
    | .Assign [.Subscript eo ek _] ee _ => chkE M N o sc none eo && chkE M N i sc none ek && chkE M N e sc none ee
    | _ => false
  | .setiO i k e, x => match x with
    | .Assign [.Subscript (.Name y _) ek _] ee _ => slotB N i y && visB sc y && okNm y && chkE M N k sc none ek && chkE M N e sc none ee
    | _ => false
  | .aug i e, x => match x with
    | .AugAssign (.Name y _) .Add ee _ => slotB N i y && locB sc y && chkE M N e sc none ee
    | _ => false
  | .auga o a e, x => match x with
    | .AugAssign (.Attribute eo y _) .Add ee _ => y == M.an a && chkE M N o sc none eo && chkE M N e sc none ee
    | _ => false
  | .augiO i k e, x => match x with
    | .AugAssign (.Subscript (.Name y _) ek _) .Add ee _ => slotB N i y && visB sc y && okNm y && notSlice ek && chkE M N k sc none ek && chkE M N e sc none ee
    | _ => false
  | .mutO i m es, x => match x with
    | .Expr (.Call (.Attribute (.Name y _) z ap) l [] cp) _ => slotB N i y && visB sc y && okNm y && z == muN m && argsB l && (ap.endLine == cp.line) && chkAs M N es sc none l
    | _ => false
  | .ex e, x => match x with
    | .Expr ee _ => !isComp ee && chkE M N e sc none ee
    | _ => false
  | .ret e, x => match x with
    | .Return (some ee) _ => chkE M N e sc none ee
    | _ => false
  | .retN, x => match x with
    | .Return none _ => true
    | _ => false
  | .frz _, _ => false
  | .cnd c a b, x => match x with
    | .If ec sa sb _ => tstE c ec && chkE M N c sc none ec && chkSs M N sc a sa && chkSs M N sc b sb
    | _ => false
  | .for p it b, x => match x with
    | .For tg iter body [] _ => plainIt iter && (!uOf it || isTp p) && chkPat N sc none p tg && chkI M N it sc none iter && chkSs M N sc b body
    | _ => false
  | .whl c b, x => match x with
    | .While ec body [] _ => tstE c ec && chkE M N c sc none ec && chkSs M N sc b body
    | _ => false
  | .rais c es, x => match x with
    | .Raise (some (.Call (.Name y _) l [] _)) none _ => y == M.cn c && glB sc y && okNm y && (match l with
      | [] => (match es with | .nil => true | _ => false) && M.exf c == some []
      | k :: r => argsB (k :: r) && (match M.exf c with | some [_] => true | _ => false) && chkAs M N es sc none (k :: r))
    | _ => false
  | .tr e hs, x => match x with
    | .Try [.Expr ee _] hds [] [] _ => !isComp ee && !hds.isEmpty && chkE M N e sc none ee && chkHs M N sc hs hds
    | _ => false
  | .pass, x => match x with
    | .Pass _ => true
    | _ => false
  | .dead, _ => true
def chkSs (M : Nms) (N : List Str) (sc : Scope) : Ss → List Stmt → Bool
  | .nil, l => l.isEmpty
  | .cons a r, l => if isFrz a then chkSs M N sc r l else match l with
    | x :: t => chkS M N sc a x && chkSs M N sc r t
    | [] => false
end
section
variable {M : Nms} {W : Wld} {n : Nat} {N : List Str} {X : Cx} {Wx : WX} {sc : Scope}
theorem kindOf_eq (k : CtxS X W n Wx N sc) : X.env.blockKind = .function := by
  have h := k.k.kind
  rw [← k.k.hsc] at h
  unfold PySem.Env.blockKind
  rw [h]; rfl
theorem swaps_sole {t v : Expr} {line : Nat} {env : PySem.Env} (h : swapsWith v (some t) line env = pure false) : swapsWithSole [t] v line env = pure false := h
theorem sw0 (k : CtxS X W n Wx N sc) {t : Str} {pt : Pos} {ee : Expr} {line : Nat} (h : okSw0 sc t pt ee = true) : swapsWith ee (some (.Name t pt)) line X.env = pure false := by
  cases ee with
  | ListComp elt gs scope p =>
    rw [swaps_name, kindOf_eq k]
    have q : (X.env.kindOf t == some .local && pt.line == p.line && !(scope.names.any fun (n, k) => n == t && (k == .local || k == .cell))) = false := by
      have h' : (!swLc sc t pt p scope) = true := h
      rw [Bool.not_eq_true'] at h'
      rw [← h', ← k.k.hsc]; rfl
    exact congrArg pure q
  | SetComp _ _ _ _ => cases h
  | DictComp kx vx gs scope p =>
    rw [swaps_nameD, kindOf_eq k]
    have q : (X.env.kindOf t == some .local && pt.line == p.line && !(scope.names.any fun (n, k) => n == t && (k == .local || k == .cell))) = false := by
      have h' : (!swLc sc t pt p scope) = true := h
      rw [Bool.not_eq_true'] at h'
      rw [← h', ← k.k.hsc]; rfl
    exact congrArg pure q
  | _ => exact swaps_no rfl
theorem sw1 (k : CtxS X W n Wx N sc) {t : Str} {pt : Pos} {ee : Expr} {line : Nat} (h : okSw1 sc t pt ee = true) : swapsWith ee (some (.Name t pt)) line X.env = pure true ∧ X.env.scope.names.lookup t = some .local ∧ ((∃ elt gs scope p, ee = .ListComp elt gs scope p) ∨ ∃ kx vx gs scope p, ee = .DictComp kx vx gs scope p) := by
  cases ee with
  | ListComp elt gs scope p =>
    have h' : swLc sc t pt p scope = true := h
    refine ⟨?_, ?_, .inl ⟨elt, gs, scope, p, rfl⟩⟩
    · rw [swaps_name, kindOf_eq k]
      have q : (X.env.kindOf t == some .local && pt.line == p.line && !(scope.names.any fun (n, k) => n == t && (k == .local || k == .cell))) = true := by
        rw [← h', ← k.k.hsc]; rfl
      exact congrArg pure q
    · simp only [swLc, Bool.and_eq_true, beq_iff_eq] at h'
      rw [k.k.hsc]; exact h'.1.1
  | DictComp kx vx gs scope p =>
    have h' : swLc sc t pt p scope = true := h
    refine ⟨?_, ?_, .inr ⟨kx, vx, gs, scope, p, rfl⟩⟩
    · rw [swaps_nameD, kindOf_eq k]
      have q : (X.env.kindOf t == some .local && pt.line == p.line && !(scope.names.any fun (n, k) => n == t && (k == .local || k == .cell))) = true := by
        rw [← h', ← k.k.hsc]; rfl
      exact congrArg pure q
    · simp only [swLc, Bool.and_eq_true, beq_iff_eq] at h'
      rw [k.k.hsc]; exact h'.1.1
  | _ => cases h
theorem prim_flat {p : Pr} (h : flatPr p = true) {s : Sto} {ds : List D} {d : D} (e : prim s p ds = some d) : flatD d = false := by
  have bnd : ∀ {α : Type} {r : Option α} {k : α → Option D}, r.bind k = some d → ∃ a, k a = some d := fun {α r k} q => by
    cases r with
    | some a => exact ⟨a, q⟩
    | none => cases q
  have mp : ∀ {α : Type} {r : Option α} {k : α → D}, r.map k = some d → ∃ a, k a = d := fun {α r k} q => by
    cases r with
    | some a => exact ⟨a, by simpa using q⟩
    | none => cases q
  cases p <;> first | (cases h; done) | skip
  · simp only [prim, pList] at e
    split at e
    · split at e
      · cases e; rfl
      · obtain ⟨a, e⟩ := mp e; rw [← e]; rfl
    · cases e
  · simp only [prim] at e
    unfold pSorted at e
    split at e
    · split at e
      · cases e; rfl
      · cases e
    · obtain ⟨a, e⟩ := bnd e
      split at e
      · cases e; rfl
      · split at e
        · cases e; rfl
        · cases e
    · cases e
  · simp only [prim, pSortedSum] at e
    split at e
    · obtain ⟨a, e⟩ := bnd e
      split at e <;> cases e
      rfl
    · cases e
  · simp only [prim, pSortedSet] at e
    split at e
    · obtain ⟨a, e⟩ := bnd e
      split at e <;> cases e
      rfl
    · cases e
  · simp only [prim, pDictOf] at e
    split at e
    · obtain ⟨a, e⟩ := bnd e
      obtain ⟨b, e⟩ := bnd e
      split at e <;> cases e
      rfl
    · cases e
  · simp only [prim, pDictZip] at e
    split at e
    · obtain ⟨a, e⟩ := bnd e
      obtain ⟨b, e⟩ := bnd e
      split at e <;> cases e
      rfl
    · cases e
  · simp only [prim, pListRange] at e
    split at e
    · split at e <;> cases e
      rfl
    · cases e
theorem flat_ok {T : Tab} {C : CallF} {f : F} (h : flatF f = true) : ∀ env s d s', evF T C f env s = .ok d s' → flatD d = false := by
  intro env s d s' e
  have bnd : ∀ {α : Type} {r : R α} {k : α → Sto → R D}, r.bind k = .ok d s' → ∃ a s1, k a s1 = .ok d s' := fun {α r k} q => by
    cases r with
    | ok a s1 => exact ⟨a, s1, q⟩
    | exc _ _ _ => cases q
    | bad => cases q
  cases f with
  | lst es =>
    simp only [evF] at e
    obtain ⟨a, s1, e⟩ := bnd e
    split at e <;> cases e
    rfl
  | cat a b =>
    simp only [evF] at e
    obtain ⟨x, s1, e⟩ := bnd e
    obtain ⟨y, s2, e⟩ := bnd e
    split at e
    · split at e <;> cases e
      rfl
    · cases e
  | cp p it c a =>
    simp only [evF] at e
    obtain ⟨x, s1, e⟩ := bnd e
    split at e
    · obtain ⟨y, s2, e⟩ := bnd e
      split at e <;> cases e
      rfl
    · cases e
  | cp2 p it q it2 a =>
    simp only [evF] at e
    obtain ⟨x, s1, e⟩ := bnd e
    split at e
    · obtain ⟨y, s2, e⟩ := bnd e
      split at e <;> cases e
      rfl
    · cases e
  | dn t =>
    simp only [evF] at e
    cases e; rfl
  | dd z a =>
    simp only [evF] at e
    obtain ⟨x, s1, e⟩ := bnd e
    cases e
    rfl
  | d1 k v =>
    simp only [evF] at e
    obtain ⟨x, s1, e⟩ := bnd e
    obtain ⟨y, s2, e⟩ := bnd e
    split at e <;> cases e
    rfl
  | dcp p it a b =>
    simp only [evF] at e
    obtain ⟨x, s1, e⟩ := bnd e
    split at e
    · obtain ⟨y, s2, e⟩ := bnd e
      split at e
      · split at e <;> cases e
        rfl
      · cases e
    · cases e
  | pr p es =>
    simp only [evF] at e
    obtain ⟨ds, s1, e⟩ := bnd e
    have hp : prim s1 p ds = some d := by
      cases hq : prim s1 p ds with
      | none => rw [hq] at e; cases e
      | some x => rw [hq] at e; cases e; rfl
    exact prim_flat h hp
/-- the list takes the name's place -/
theorem lcA_of (mk : NmsOk2 M W) (k : CtxS X W n Wx N sc) {f : F} {i : Nat} {y : Str} {py pos : Pos} {ee : Expr} (hN : slotB N i y = true) (hs : okSw1 sc y py ee = true) (h : chkF M N f sc none ee = true) (g0 : Gh) (H0 : Hp) :
    PS X (.Assign [.Name y py] ee pos) (tAsg (tMF W g0 H0 Wx (evF W.T (callN W.T n) f)) (gName i)) := by
  obtain ⟨q1, q2, eq⟩ := sw1 (line := pos.line) k hs
  cases f with
  | cp p it c e =>
    simp only [chkF] at h
    split at h
    · rename_i elt tg iter ifs scope pos
      simp only [Bool.and_eq_true, Bool.or_eq_true, Bool.not_eq_true'] at h
      obtain ⟨⟨⟨⟨⟨⟨hpl, hu⟩, hb⟩, hp⟩, hit⟩, hif⟩, hel⟩ := h
      have hu' : uOf it = true → isTp p = true := fun z => by rcases hu with q | q; · rw [q] at z; cases z
                                                              · exact q
      exact cs_ownLc ⟨k.k.calm, k.k.nd, fun z => (pat_tup hp (hu' z)).2, map_snd, by rw [k.k.hN, k.k.hsc]; exact blkOk_by hb, chkI_ok mk it X Wx sc none k.k _ hit _ (fun z => (pat_tup hp (hu' z)).1) g0 H0,
        fun s H C cl fp g0 H0 => pat_ok (k.k.blk (blk_kind hb) s H C cl fp) hp g0 H0,
        fun s H C cl fp => chkIf_ok mk c _ _ _ (k.k.blk (blk_kind hb) s H C cl fp) _ hif,
        fun s H C cl fp g0 H0 => chkE_ok mk e _ _ _ _ (k.k.blk (blk_kind hb) s H C cl fp) _ hel g0 H0, fun x => fold_no hpl x⟩ (slot_of k.k hN) q2 q1
    · cases h
  | cp2 p it q it2 e =>
    simp only [chkF] at h
    split at h
    · rename_i elt tg iter tg2 iter2 scope pos
      simp only [Bool.and_eq_true, Bool.or_eq_true, Bool.not_eq_true'] at h
      obtain ⟨⟨⟨⟨⟨⟨⟨⟨⟨hpl, hpl2⟩, hu⟩, hu2⟩, hb⟩, hp⟩, hq⟩, hit⟩, hit2⟩, hel⟩ := h
      have hu' : uOf it = true → isTp p = true := fun z => by rcases hu with q | q; · rw [q] at z; cases z
                                                              · exact q
      have hu2' : uOf it2 = true → isTp q = true := fun z => by rcases hu2 with q | q; · rw [q] at z; cases z
                                                                · exact q
      exact cs_ownLc2 ⟨k.k.calm, k.k.nd, fun z => (pat_tup hp (hu' z)).2, fun z => (pat_tup hq (hu2' z)).2, map_snd (l := slotsP p ++ slotsP q), by rw [k.k.hN, k.k.hsc]; exact blkOk_by hb, chkI_ok mk it X Wx sc none k.k _ hit _ (fun z => (pat_tup hp (hu' z)).1) g0 H0,
        fun s H C cl fp g0 H0 => pat_ok (k.k.blk (blk_kind hb) s H C cl fp) hp g0 H0,
        fun s H C cl fp g0 H0 => chkI_ok mk it2 _ _ _ _ (k.k.blk (blk_kind hb) s H C cl fp) _ hit2 _ (fun z => (pat_tup hq (hu2' z)).1) g0 H0,
        fun s H C cl fp g0 H0 => pat_ok (k.k.blk (blk_kind hb) s H C cl fp) hq g0 H0,
        fun s H C cl fp g0 H0 => chkE_ok mk e _ _ _ _ (k.k.blk (blk_kind hb) s H C cl fp) _ hel g0 H0, fun x => fold_no hpl x, fun env x => fold_no hpl2 x⟩ (slot_of k.k hN) q2 q1
    · cases h
  | dcp p it e e2 =>
    simp only [chkF] at h
    split at h
    · rename_i kx vx tg iter scope pos
      simp only [Bool.and_eq_true, Bool.or_eq_true, Bool.not_eq_true'] at h
      obtain ⟨⟨⟨⟨⟨⟨hpl, hu⟩, hb⟩, hp⟩, hit⟩, hkx⟩, hvx⟩ := h
      have hu' : uOf it = true → isTp p = true := fun z => by rcases hu with q | q; · rw [q] at z; cases z
                                                              · exact q
      exact cs_ownDc ⟨k.k.calm, k.k.nd, fun z => (pat_tup hp (hu' z)).2, map_snd, by rw [k.k.hN, k.k.hsc]; exact blkOk_by hb, chkI_ok mk it X Wx sc none k.k _ hit _ (fun z => (pat_tup hp (hu' z)).1) g0 H0,
        fun s H C cl fp g0 H0 => pat_ok (k.k.blk (blk_kind hb) s H C cl fp) hp g0 H0,
        fun s H C cl fp g0 H0 => chkE_ok mk e _ _ _ _ (k.k.blk (blk_kind hb) s H C cl fp) _ hkx g0 H0,
        fun s H C cl fp g0 H0 => chkE_ok mk e2 _ _ _ _ (k.k.blk (blk_kind hb) s H C cl fp) _ hvx g0 H0, fun x => fold_no hpl x⟩ (slot_of k.k hN) q2 q1
    · cases h
  | pr p es => rcases eq with ⟨_, _, _, _, eq⟩ | ⟨_, _, _, _, _, eq⟩ <;> subst eq <;> cases p <;> simp [chkF, nestB] at h
  | _ => rcases eq with ⟨_, _, _, _, eq⟩ | ⟨_, _, _, _, _, eq⟩ <;> subst eq <;> simp [chkF] at h
theorem cst_ok {d : D} {x : Expr} (h : chkCst M d x = true) : ∃ v, (∀ g : Gh, g.k0 = W.f0 → RV g v d) ∧ ∀ Y : Cx, PE Y x (tC v) := by
  unfold chkCst at h
  split at h
  · exact ⟨.non, fun g _ => by rw [eqC_eq h]; trivial, fun Y => pe_non⟩
  · exact ⟨.bl _, fun g _ => by rw [eqC_eq h]; rfl, fun Y => pe_bl⟩
  · exact ⟨.int _, fun g _ => by rw [eqC_eq h]; rfl, fun Y => pe_int⟩
  · simp only [Bool.and_eq_true] at h
    exact ⟨.str _, fun g _ => by rw [eqC_eq h.1]; exact ⟨(toS_cps _).symm, okCps_ok h.2⟩, fun Y => pe_str⟩
  · cases h
theorem cst_comp {d : D} {x : Expr} (h : chkCst M d x = true) : isComp x = false := by
  unfold chkCst at h
  split at h <;> first | rfl | cases h
theorem hs_ok (mk : NmsOk2 M W) (k : CtxS X W n Wx N sc) : ∀ {hs : Hs} {l : List ExceptHandler}, chkHs M N sc hs l = true → HsC X W hs l
  | .nil, l, h => by
    simp only [chkHs] at h
    cases l with
    | nil => exact .nil
    | cons _ _ => cases h
  | .cons h n x e r, l, hh => by
    simp only [chkHs] at hh
    split at hh
    · split at hh
      · rename_i d
        simp only [Bool.and_eq_true, beq_iff_eq] at hh
        obtain ⟨⟨⟨⟨⟨⟨⟨hy, hx⟩, hg⟩, hn⟩, hs⟩, hl⟩, hc⟩, ht⟩ := hh
        rw [← mk.cn] at hy
        rw [← mk.exf] at hx
        subst hy
        obtain ⟨v, hv, hk⟩ := cst_ok (W := W) hc
        exact .cons hx (gl_of k.k hg) (nm_of hn).1 (slot_of k.k hs) (by rw [k.k.hsc]; exact hl) hv (fun a pn => hk _) (fun a pn => swaps_no (cst_comp hc)) (hs_ok mk k ht)
      · cases hh
    · split at hh
      · simp only [Bool.and_eq_true, beq_iff_eq] at hh
        obtain ⟨⟨⟨⟨⟨⟨⟨⟨⟨⟨⟨⟨⟨q1, q2⟩, q3⟩, hy⟩, hx⟩, ho⟩, hg⟩, hn⟩, hs⟩, hl⟩, hs2⟩, hl2⟩, hn2⟩, ht⟩ := hh
        rw [← mk.cn] at hy
        rw [← mk.exf] at hx
        rw [← mk.an] at q3
        subst hy
        subst q1
        subst q2
        subst q3
        exact .xf hx (mk.only _ ho) (gl_of k.k hg) (nm_of hn).1 (slot_of k.k hs) (by rw [k.k.hsc]; exact hl) (slot_of k.k hs2) (by rw [k.k.hsc]; exact hl2) (nm_of hn2).1 (nm_of hn2).2 (hs_ok mk k ht)
      · cases hh
    · split at hh
      · simp only [Bool.and_eq_true, beq_iff_eq] at hh
        obtain ⟨⟨⟨⟨⟨⟨⟨⟨⟨⟨⟨⟨⟨⟨⟨q1, q2⟩, q3⟩, hy⟩, hx⟩, ho⟩, hg⟩, hn⟩, hs⟩, hl⟩, hs2⟩, hl2⟩, hn2⟩, hc⟩, hns⟩, ht⟩ := hh
        rw [← mk.cn] at hy
        rw [← mk.exf] at hx
        rw [← mk.an] at q3
        subst hy
        subst q1
        subst q2
        subst q3
        obtain ⟨v, hv, hk⟩ := cst_ok (W := W) hc
        exact .xl hx (mk.only _ ho) (gl_of k.k hg) (nm_of hn).1 (slot_of k.k hs) (by rw [k.k.hsc]; exact hl) (slot_of k.k hs2) (by rw [k.k.hsc]; exact hl2) (nm_of hn2).1 (nm_of hn2).2 hv (fun a pn => hk _) (fun es env => star_cons hns) (hs_ok mk k ht)
      · cases hh
    · split at hh
      · split at hh
        · rename_i p hp
          simp only [Bool.and_eq_true, beq_iff_eq] at hh
          obtain ⟨⟨⟨⟨⟨⟨⟨⟨⟨q1, q2⟩, q3⟩, hy⟩, hx⟩, hg⟩, hn⟩, hs2⟩, hl2⟩, ht⟩ := hh
          rw [← mk.cn] at hy
          rw [← mk.exf] at hx
          subst hy
          exact .hx hx (gl_of k.k hg) (nm_of hn).1 (slot_of k.k hs2) (by rw [k.k.hsc]; exact hl2) (by rw [mk.hs]; exact hp) q1 q2 (by rw [k.k.hN, k.k.hsc]; exact q3) (hs_ok mk k ht)
        · cases hh
      · cases hh
    · cases hh
def OkS (M : Nms) (W : Wld) (n : Nat) (N : List Str) (sc : Scope) (a : S) : Prop := ∀ (X : Cx) (Wx : WX), CtxS X W n Wx N sc → ∀ x, chkS M N sc a x = true → ∀ g0 H0, PS X x (tS W g0 H0 Wx (ex W.T (callN W.T n) a))
def OkSs (M : Nms) (W : Wld) (n : Nat) (N : List Str) (sc : Scope) (a : Ss) : Prop := ∀ (X : Cx) (Wx : WX), CtxS X W n Wx N sc → ∀ l, chkSs M N sc a l = true → ∀ g0 H0, PSs X l (tS W g0 H0 Wx (exs W.T (callN W.T n) a))
theorem fnS (k : CtxS X W n Wx N sc) (x : Str) : X.fn x = true := k.k.fn x rfl
theorem oks_asg (mk : NmsOk2 M W) {p : Pat} {e : E} : OkS M W n N sc (.asg p e) := fun X Wx k x h g0 H0 => by
  simp only [chkS] at h
  split at h
  · rename_i tg ee pos
    split at h
    · rename_i i
      split at h
      · rename_i y pt
        simp only [Bool.and_eq_true, Bool.or_eq_true] at h
        obtain ⟨⟨⟨h1, h2⟩, h3⟩, h4 | ⟨h4, h5⟩⟩ := h
        · exact cs_set k.k.nd (slot_of k.k h1) (loc_of k.k h2) (.inl (fnS k y)) (chkE_ok mk e X Wx sc none k.k _ h3 g0 H0) (sw0 k h4)
        · cases e with
          | fr f =>
            simp only [chkE] at h3
            exact cs_asgF (lcA_of mk k h1 h4 h3 g0 H0)
          | _ => cases h5
      · cases h
    · rename_i is
      split at h
      · simp only [Bool.and_eq_true, Bool.not_eq_true', Bool.or_eq_true] at h
        exact cs_tup k.k.cx.xw k.k.calm k.k.nd (nms_ok k.k h.1.1) (chkE_ok mk e X Wx sc none k.k _ h.1.2 g0 H0) (swaps_sole (swaps_other rfl)) (h.2.elim stores_no fun z => stores_cel (by rw [k.k.hsc]; exact z))
      · cases h
  · cases h
theorem oks_par (mk : NmsOk2 M W) {i j : Nat} {a b : E} : OkS M W n N sc (.par i j a b) := fun X Wx k x h g0 H0 => by
  simp only [chkS] at h
  split at h
  · simp only [Bool.and_eq_true, Bool.not_eq_true', beq_iff_eq, beq_eq_false_iff_ne] at h
    obtain ⟨⟨⟨⟨⟨⟨⟨⟨⟨⟨⟨⟨⟨h1, h2⟩, h3⟩, h4⟩, h5⟩, h6⟩, h7⟩, h8⟩, h9⟩, h10⟩, h11⟩, h12⟩, h13⟩, h14⟩ := h
    have hx := h4
    have hy := h5
    rw [← k.k.hsc] at hx hy
    exact cs_par k.k.calm k.k.nd (slot_of k.k h1) (slot_of k.k h2) h3 hx hy (chkE_ok mk a X Wx sc none k.k _ h13 g0 H0) (chkE_ok mk b X Wx sc none k.k _ h14 g0 H0) (star_cons h9) (star_cons h10)
      (stores_par (kindOf_eq k) hx hy (by rw [h6]; exact beq_self_eq_true _) (beq_eq_false_iff_ne.mpr h7) (beq_eq_false_iff_ne.mpr h8) h9 h10 h11 h12) (swaps_sole (swaps_no rfl))
  · cases h
theorem oks_own (mk : NmsOk2 M W) {i : Nat} {f : F} : OkS M W n N sc (.own i f) := fun X Wx k x h g0 H0 => by
  simp only [chkS] at h
  split at h
  · rename_i y pt ee pos
    simp only [Bool.and_eq_true, Bool.or_eq_true] at h
    obtain ⟨⟨⟨⟨h1, h2⟩, h3⟩, h4⟩, h5 | h5⟩ := h
    · exact cs_own k.k.nd (slot_of k.k h1) (loc_of k.k h2) (.inl (fnS k y)) (chkF_ok mk f X Wx sc none k.k _ h4 g0 H0) (sw0 k h5) (flat_ok h3)
    · exact cs_ownF (lcA_of mk k h1 h5 h4 g0 H0) (flat_ok h3)
  · cases h
theorem oks_seta (mk : NmsOk2 M W) {o e : E} {a : Nat} : OkS M W n N sc (.seta o a e) := fun X Wx k x h g0 H0 => by
  simp only [chkS] at h
  split at h
  · simp only [Bool.and_eq_true, beq_iff_eq] at h
    obtain ⟨⟨h1, h2⟩, h3⟩ := h
    rw [← mk.an] at h1
    subst h1
    exact cs_seta k.k.cx.xw k.k.cx.wok (chkE_ok mk o X Wx sc none k.k _ h2 g0 H0) (chkE_ok mk e X Wx sc none k.k _ h3 g0 H0) (swaps_other rfl)
  · cases h
theorem oks_seti (mk : NmsOk2 M W) {o i e : E} : OkS M W n N sc (.seti o i e) := fun X Wx k x h g0 H0 => by
  simp only [chkS] at h
  split at h
  · simp only [Bool.and_eq_true] at h
    exact cs_seti k.k.cx.xw (chkE_ok mk e X Wx sc none k.k _ h.2 g0 H0) (chkE_ok mk o X Wx sc none k.k _ h.1.1 g0 H0) (chkE_ok mk i X Wx sc none k.k _ h.1.2 g0 H0) (swaps_other rfl)
  · cases h
theorem oks_setiO (mk : NmsOk2 M W) {i : Nat} {q e : E} : OkS M W n N sc (.setiO i q e) := fun X Wx k x h g0 H0 => by
  simp only [chkS] at h
  split at h
  · simp only [Bool.and_eq_true] at h
    obtain ⟨⟨⟨⟨h1, h2⟩, h3⟩, h4⟩, h5⟩ := h
    exact cs_setiO k.k.cx.xw (slot_of k.k h1) (vis_of k.k h2) (nm_of h3).1 (nm_of h3).2 (chkE_ok mk e X Wx sc none k.k _ h5 g0 H0) (chkE_ok mk q X Wx sc none k.k _ h4 g0 H0) (swaps_other rfl)
  · cases h
theorem oks_aug (mk : NmsOk2 M W) {i : Nat} {e : E} : OkS M W n N sc (.aug i e) := fun X Wx k x h g0 H0 => by
  simp only [chkS] at h
  split at h
  · rename_i y _ _ _
    simp only [Bool.and_eq_true] at h
    exact cs_aug k.k.nd (slot_of k.k h.1.1) (loc_of k.k h.1.2) (.inl (fnS k y)) (chkE_ok mk e X Wx sc none k.k _ h.2 g0 H0)
  · cases h
theorem oks_auga (mk : NmsOk2 M W) {o e : E} {a : Nat} : OkS M W n N sc (.auga o a e) := fun X Wx k x h g0 H0 => by
  simp only [chkS] at h
  split at h
  · simp only [Bool.and_eq_true, beq_iff_eq] at h
    obtain ⟨⟨h1, h2⟩, h3⟩ := h
    rw [← mk.an] at h1
    subst h1
    exact cs_auga k.k.cx.xw k.k.cx.wok (chkE_ok mk o X Wx sc none k.k _ h2 g0 H0) (chkE_ok mk e X Wx sc none k.k _ h3 g0 H0)
  · cases h
theorem oks_augiO (mk : NmsOk2 M W) {i : Nat} {q e : E} : OkS M W n N sc (.augiO i q e) := fun X Wx k x h g0 H0 => by
  simp only [chkS] at h
  split at h
  · simp only [Bool.and_eq_true] at h
    obtain ⟨⟨⟨⟨⟨h1, h2⟩, h3⟩, h4⟩, h5⟩, h6⟩ := h
    exact cs_augiO k.k.cx.xw (slot_of k.k h1) (vis_of k.k h2) (nm_of h3).1 (nm_of h3).2 (chkE_ok mk e X Wx sc none k.k _ h6 g0 H0) (chkE_ok mk q X Wx sc none k.k _ h5 g0 H0) (fun ov iv new => aug_eq h4 ov iv new)
  · cases h
theorem oks_mutO (mk : NmsOk2 M W) {i : Nat} {m : Mu} {es : As} : OkS M W n N sc (.mutO i m es) := fun X Wx k x h g0 H0 => by
  simp only [chkS] at h
  split at h
  · simp only [Bool.and_eq_true, beq_iff_eq] at h
    obtain ⟨⟨⟨⟨⟨⟨h1, h2⟩, h3⟩, h4⟩, h5⟩, h6⟩, h7⟩ := h
    subst h4
    have pa := chkAs_ok mk es X Wx sc none k.k _ h7 g0 H0
    obtain ⟨e', r', eq, q1, q2, q3, q4⟩ := args_of h5
    subst eq
    exact cs_mutO k.k.cx.xw (slot_of k.k h1) (vis_of k.k h2) (nm_of h3).1 (nm_of h3).2 m (mc_ok rfl q4 q3 (by rw [h6]; exact beq_self_eq_true _)) pa (swaps_no rfl)
  · cases h
theorem oks_ex (mk : NmsOk2 M W) {e : E} : OkS M W n N sc (.ex e) := fun X Wx k x h g0 H0 => by
  simp only [chkS] at h
  split at h
  · simp only [Bool.and_eq_true, Bool.not_eq_true'] at h
    exact cs_ex (chkE_ok mk e X Wx sc none k.k _ h.2 g0 H0) (swaps_no h.1)
  · cases h
theorem oks_ret (mk : NmsOk2 M W) {e : E} : OkS M W n N sc (.ret e) := fun X Wx k x h g0 H0 => by
  simp only [chkS] at h
  split at h
  · exact cs_ret (chkE_ok mk e X Wx sc none k.k _ h g0 H0)
  · cases h
theorem oks_retN : OkS M W n N sc .retN := fun X Wx k x h g0 H0 => by
  simp only [chkS] at h
  split at h
  · exact cs_retN
  · cases h
theorem oks_cnd (mk : NmsOk2 M W) {c : E} {a b : Ss} (ha : OkSs M W n N sc a) (hb : OkSs M W n N sc b) : OkS M W n N sc (.cnd c a b) := fun X Wx k x h g0 H0 => by
  simp only [chkS] at h
  split at h
  · simp only [Bool.and_eq_true] at h
    exact cs_cnd (chkT_ok mk c X Wx sc none k.k _ h.1.1.2 h.1.1.1 g0 H0).1 (ha X Wx k _ h.1.2 g0 H0) (hb X Wx k _ h.2 g0 H0)
  · cases h
theorem oks_for (mk : NmsOk2 M W) {p : Pat} {it : I} {b : Ss} (hb : OkSs M W n N sc b) : OkS M W n N sc (.for p it b) := fun X Wx k x h g0 H0 => by
  simp only [chkS] at h
  split at h
  · simp only [Bool.and_eq_true, Bool.or_eq_true, Bool.not_eq_true'] at h
    obtain ⟨⟨⟨⟨hpl, hu⟩, hp⟩, hit⟩, hbd⟩ := h
    have hu' : uOf it = true → isTp p = true := fun z => by rcases hu with q | q; · rw [q] at z; cases z
                                                            · exact q
    exact cs_for (fun z => (pat_tup hp (hu' z)).2) k.k.cx.po k.k.calm (chkI_ok mk it X Wx sc none k.k _ hit _ (fun z => (pat_tup hp (hu' z)).1) g0 H0) (pat_ok k.k hp g0 H0) (hb X Wx k _ hbd g0 H0) (fun x => fold_no hpl x)
  · cases h
theorem oks_whl (mk : NmsOk2 M W) {c : E} {b : Ss} (hb : OkSs M W n N sc b) : OkS M W n N sc (.whl c b) := fun X Wx k x h g0 H0 => by
  simp only [chkS] at h
  split at h
  · simp only [Bool.and_eq_true] at h
    exact cs_whl k.k.cx.po (chkT_ok mk c X Wx sc none k.k _ h.1.2 h.1.1 g0 H0).1 (hb X Wx k _ h.2 g0 H0)
  · cases h
theorem oks_rais (mk : NmsOk2 M W) {c : Nat} {es : As} : OkS M W n N sc (.rais c es) := fun X Wx k x h g0 H0 => by
  simp only [chkS] at h
  split at h
  · rename_i y p l p2 pos
    simp only [Bool.and_eq_true, beq_iff_eq] at h
    obtain ⟨⟨⟨h2, h3⟩, h4⟩, h1⟩ := h
    rw [← mk.cn] at h2
    subst h2
    cases l with
    | nil =>
      simp only [Bool.and_eq_true, beq_iff_eq] at h1
      obtain ⟨h1, h5⟩ := h1
      rw [← mk.exf] at h5
      split at h1
      · exact cs_rais0 k.k.cx k.k.calm h5 (gl_of k.k h3) (nm_of h4).1
      · cases h1
    | cons e r =>
      simp only [Bool.and_eq_true] at h1
      obtain ⟨⟨h1, h5⟩, h6⟩ := h1
      split at h5
      · rename_i b hb
        rw [← mk.exf] at hb
        obtain ⟨e', r', eq, q1, q2, q3, q4⟩ := args_of h1
        cases eq
        exact cs_rais1 k.k.cx k.k.calm hb (gl_of k.k h3) (nm_of h4).1 (chkAs_ok mk es X Wx sc none k.k _ h6 g0 H0) (star_cons q1) (star_all q2)
      · cases h5
  · cases h
theorem oks_tr (mk : NmsOk2 M W) {e : E} {hs : Hs} : OkS M W n N sc (.tr e hs) := fun X Wx k x h g0 H0 => by
  simp only [chkS] at h
  split at h
  · rename_i ee p hds pos
    simp only [Bool.and_eq_true, Bool.not_eq_true'] at h
    obtain ⟨⟨⟨h1, h2⟩, h3⟩, h4⟩ := h
    cases hds with
    | nil => cases h2
    | cons h0 hds =>
      exact cs_try k.k.cx k.k.nd k.stk k.frm (hs_ok mk k h4) (fun W' pn xe tk po => chkE_ok mk e (X.tr pn xe) W' sc none (k.k.tr tk po) _ h3 g0 H0) (swaps_no h1)
  · cases h
theorem oks_pass : OkS M W n N sc .pass := fun X Wx k x h g0 H0 => by
  simp only [chkS] at h
  split at h
  · exact cs_pass
  · cases h
theorem oks_dead : OkS M W n N sc .dead := fun X Wx k x h g0 H0 => ⟨fun pins s σ H D I ⟨env, st, g, si, af⟩ => by
  simp only [ex] at af
  exact af.elim⟩
mutual
theorem chkS_ok (mk : NmsOk2 M W) : ∀ a, OkS M W n N sc a
  | .asg p e => oks_asg mk
  | .par i j a b => oks_par mk
  | .own i f => oks_own mk
  | .seta o a e => oks_seta mk
  | .seti o i e => oks_seti mk
  | .setiO x i e => oks_setiO mk
  | .aug i e => oks_aug mk
  | .auga o a e => oks_auga mk
  | .augiO x i e => oks_augiO mk
  | .mutO x m es => oks_mutO mk
  | .ex e => oks_ex mk
  | .ret e => oks_ret mk
  | .retN => oks_retN
  | .frz x => fun X Wx k x h g0 H0 => by simp only [chkS] at h; cases h
  | .cnd c a b => oks_cnd mk (chkSs_ok mk a) (chkSs_ok mk b)
  | .for p it b => oks_for mk (chkSs_ok mk b)
  | .whl c b => oks_whl mk (chkSs_ok mk b)
  | .rais c es => oks_rais mk
  | .tr e hs => oks_tr mk
  | .pass => oks_pass
  | .dead => oks_dead
theorem chkSs_ok (mk : NmsOk2 M W) : ∀ a, OkSs M W n N sc a
  | .nil => fun X Wx k l h g0 H0 => by
    simp only [chkSs] at h
    cases l with
    | nil => exact cs_nil
    | cons _ _ => cases h
  | .cons a r => fun X Wx k l h g0 H0 => by
    have ha := chkS_ok mk a
    have hr := chkSs_ok mk r
    simp only [chkSs] at h
    split at h
    · rename_i hf
      cases a with
      | frz i => exact cs_frz (hr X Wx k _ h g0 H0)
      | _ => cases hf
    · split at h
      · simp only [Bool.and_eq_true] at h
        exact cs_cons (ha X Wx k _ h.1 g0 H0) (hr X Wx k _ h.2 g0 H0)
      · cases h
end
end
end CF
/-! CFFn -/
/-! Every function keeps its promise. -/
namespace CF
open PySem PySem.Spec L2
/-- a function of the text and its form in the small language -/
structure FOne (M : Nms) (W : Wld) (f : Nat) (fd : FDef) (x qual : Str) (st : Stmt) (N : List Str) : Prop where
  fn : L2.Fun W.K x qual st (W.ad f) (W.fd f)
  sc : FnScope N (W.ps f) (defScope st)
  nl : fd.nl = N.length
  np : fd.np = (W.ps f).length
  ck : chkSs M N (defScope st) fd.body (defBody st) = true
  bi : Binds W.K (W.fd f) (W.ps f) []
section
variable {M : Nms} {W : Wld}
theorem argEnv_at {n : Nat} {ds : List D} {i : Nat} {s : Slot} (h : (argEnv n ds)[i]? = some s) : (∃ d, ds[i]? = some d ∧ s = .pu d) ∨ s = .emp := by
  unfold argEnv at h
  by_cases hi : i < ds.length
  · rw [List.getElem?_append_left (by simpa using hi), List.getElem?_map] at h
    cases e : ds[i]? with
    | none => rw [e] at h; cases h
    | some d => rw [e] at h; cases h; exact .inl ⟨d, rfl, rfl⟩
  · rw [List.getElem?_append_right (by simpa using hi), List.getElem?_replicate] at h
    split at h <;> cases h
    exact .inr rfl
theorem start_at {N : List Str} {vs : List V} {i : Nat} {v : V} (h : vs[i]? = some v) : (L2.start N vs)[i]? = some (some v) := by
  unfold L2.start
  have hi : i < vs.length := by
    rcases Nat.lt_or_ge i vs.length with q | q
    · exact q
    · rw [List.getElem?_eq_none q] at h; cases h
  rw [List.getElem?_append_left (by simpa using hi), List.getElem?_map, h]; rfl
theorem si_start {g : Gh} {st : Sto} {H : Hp} {vs : List V} {ds : List D} {N : List Str} {nl : Nat} (hs : HS W g st H) (rv : RVs g vs ds) (hn : nl = N.length) (hl : ds.length ≤ nl) : SI W g H (argEnv nl ds) st g (L2.start N vs) H := by
  have el := pairedLen rv
  refine ⟨hs, Frm.refl g H, ?_, fun i s x e1 e2 => ?_, fun i j d e a e1 e2 _ _ => ?_⟩
  · unfold argEnv L2.start
    simp only [List.length_append, List.length_map, List.length_replicate]
    omega
  · rcases argEnv_at e1 with ⟨d, hd, rfl⟩ | rfl
    · obtain ⟨v, hv, r⟩ := rs_at rv hd
      rw [start_at hv] at e2
      cases e2
      exact ⟨v, rfl, r⟩
    · trivial
  · rcases argEnv_at e1 with ⟨d', _, z⟩ | z <;> cases z
/-- a def by its body, whatever is said of the exceptions that leave it -/
theorem fun_cx {P : Program} {w : World} {K : PySem.W.Frag} {mg : Str → Option Value} {base : Heap} {Cc : CXT} {x qual : Str} {st : Stmt} {f : Addr} {fd : FuncData} {N ps : List Str} {k : Nat} {sp : Sp} (F : Fun K x qual st f fd) (S : FnScope N ps (defScope st)) (hl : ∀ vs H Q E, sp vs H Q E → vs.length = ps.length)
    (hb : ∀ (cdv : Value) (A : Around) (outer : List PySem.Env) (s : Shared) (H : Hp) (vs : List V) (Q : VK) (E : XK), Room k (A.deeper (PyProof.Rows.envOfC qual (defScope st) s.heap.objs.size f cdv)) → sp vs H Q E → ∃ t, PSs (cxOf Cc P w K mg base N qual (defScope st) f cdv A outer s H E) (defBody st) t ∧ t { nx := fun _ H' => Q .non H', rt := Q } (start N vs) H) :
    FnOk P w K mg base Cc (k + 1) f fd ps sp := by
  obtain ⟨_, _, _, _, _, _, _, _, _, e, lk, hcd⟩ := F.ex
  subst e
  exact fn_of lk hcd S hl fun A outer s H vs Q E hr h => hb _ A outer s H vs Q E hr h
theorem fns_ok (wok : WOk W) (mk : NmsOk2 M W) (base : Heap) (hf : ∀ f fd, W.T.fn f = some fd → ∃ x qual st N, FOne M W f fd x qual st N) : ∀ n f fd, W.T.fn f = some fd → FnOk W.P W.w W.K W.mg base (L2N.CX W.P W.w) (3 * n + 3) (W.ad f) (W.fd f) (W.ps f) (sp W n f) ∧ Binds W.K (W.fd f) (W.ps f) [] := by
  intro n
  induction n with
  | zero =>
    intro f fd h
    obtain ⟨x, qual, st, N, F⟩ := hf f fd h
    refine ⟨⟨?_, ?_⟩, F.bi⟩
    · rintro vs H Q E ⟨g, st, ds, _, _, z⟩
      exact z.elim
    · rintro A outer s H args us vs Q E _ _ _ _ ⟨g, st, ds, _, _, z⟩
      exact z.elim
  | succ n ih =>
    intro f fd h
    obtain ⟨x, qual, st, N, F⟩ := hf f fd h
    refine ⟨fun_cx (k := 3 * n + 5) F.fn F.sc ?_ ?_, F.bi⟩
    · rintro vs H Q E ⟨g, st, ds, _, rv, z⟩
      obtain ⟨fd', e1, e2⟩ := fn_some z
      rw [h] at e1
      cases e1
      rw [pairedLen rv, e2, F.np]
    · rintro cdv A outer s H vs Q E hr ⟨g, sto, ds, hs, rv, z⟩
      unfold callN at z
      simp only [h] at z
      split at z
      · rename_i hc
        have cx : CxOk (cxOf (L2N.CX W.P W.w) W.P W.w W.K W.mg base N qual (defScope st) (W.ad f) cdv A outer s H E) W n (fun cls d _ H' => E cls d H') := {
          xw := ⟨rfl, rfl, rfl, rfl, Nat.lt_of_le_of_lt (Nat.add_le_add_right (Nat.le_add_right _ _) 200) hr.un, wok.ok0⟩
          calm := rfl
          wok := wok
          nd := F.sc.nd
          tk := L2N.takes_of rfl rfl rfl rfl
          room := hr
          po := passes_of (K := fun e s'' => L2N.CX W.P W.w outer H s E e s'') rfl
          fns := fun f fd h => ih f fd h }
        have kc : CtxS (cxOf (L2N.CX W.P W.w) W.P W.w W.K W.mg base N qual (defScope st) (W.ad f) cdv A outer s H E) W n (fun cls d _ H' => E cls d H') N (defScope st) := ⟨⟨cx, rfl, rfl, F.sc.kind, fun _ _ => rfl⟩, rfl, rfl⟩
        refine ⟨_, chkSs_ok mk fd.body _ _ kc _ F.ck g H, ?_⟩
        refine ⟨argEnv fd.nl ds, sto, g, si_start hs rv F.nl (by rw [hc.1]; exact hc.2), ?_⟩
        revert z
        cases exs W.T (callN W.T n) fd.body (argEnv fd.nl ds) sto with
        | bad => exact fun z => z
        | exc c fs st' => exact fun z cls dd env σ g' H' l si ex => z cls dd g' H' si.hs si.fr ex
        | ok fl st' =>
          cases fl with
          | nx env' => exact fun z σ g' H' l si => z g' H' si.hs si.fr .non trivial
          | rt d => exact fun z v env σ g' H' l si rv => z g' H' si.hs si.fr v rv
      · exact z.elim
end
end CF
/-! H0 -/
/-! k13: where the law's except suite is come to, and what it gives there. -/
namespace CF
/-- the classes, as the law counts them -/
def ordC : List Nat := [1, 2, 4, 12, 13, 15, 16, 3, 18]
/-- what the law draws from -/
def oneV : Nat → D
  | 0 => .str [97]
  | 1 => .str []
  | 2 => .int 7
  | 3 => .non
  | 4 => .tup [.int 1]
  | _ => .lst [.int 2]
/-- the fields of the k-th exception, made with d -/
def fsAt (k : Nat) (d : D) : List (Nat × D) := if k < 7 then [] else if k = 7 then [(3, d)] else [(24, d)]
/-- the slots when the suite begins -/
def Good13 (env : Env) : Prop := ∃ (k i : Nat) (s0 s1 s4 s6 : Slot), k < 9 ∧ i < 6 ∧ env.all (fun x => !isOwS x) = true ∧ env = [s0, s1, .pu (.int k), .pu (oneV i), s4, .ex (ordC.getD k 0) (fsAt k (oneV i)), s6]
open Classical in
/-- the suite stores True -/
noncomputable def hx13 : Nat → Env → Sto → Option D := fun j env _ => if j = 0 ∧ Good13 env then some (.bl true) else none
theorem hx13_good {env : Env} {st : Sto} (h : Good13 env) : hx13 0 env st = some (.bl true) := if_pos ⟨rfl, h⟩
theorem hx13_inv {j : Nat} {env : Env} {st : Sto} {v : D} (h : hx13 j env st = some v) : j = 0 ∧ Good13 env ∧ v = .bl true := by
  unfold hx13 at h
  split at h
  · rename_i q
    exact ⟨q.1, q.2, by cases h; rfl⟩
  · cases h
end CF
/-! Prog -/
/-! The text of the law in the small language: printed by gen.py. -/
namespace CFP
open CF
/-- _law_random(_law_script, _law_salt); _law_seed, _law_cell -/
def b37f0 : Ss := (.cons (.asg (.nm 2) (.bin .mod (.prm .int (.cons (.bin .add (.bin .mul (.var 2) (.cst (.int 31))) (.prm .abs (.cons (.var 3) .nil))) .nil)) (.cst (.int 2147483647)))) .nil)
def b37 : Ss := (.cons (.asg (.nm 2) (.var 1)) (.cons (.for (.nm 3) (.sq (.var 0)) b37f0) (.cons (.ret (.al (.cat (.fr (.lst (.cons (.var 2) (.cons (.cst (.int 0)) .nil)))) (.fr (.cp (.nm 3) (.sq (.var 0)) (.so (.cmp .ge (.var 3) (.bin .pow (.cst (.int 10)) (.cst (.int 18))))) (.var 3)))))) .nil)))
/-- _law_below(_law_d, _law_size); _law_result -/
def b38 : Ss := (.cons (.cnd (.and (.cmp .eq (.sub (.var 0) (.cst (.int 1))) (.cst (.int 0))) (.cmp .gt (.prm .len (.cons (.var 0) .nil)) (.cst (.int 2)))) (.cons (.seti (.var 0) (.cst (.int 1)) (.mut .popAt (.var 0) (.cons (.cst (.int 2)) .nil))) .nil) .nil) (.cons (.cnd (.cmp .gt (.sub (.var 0) (.cst (.int 1))) (.cst (.int 0))) (.cons (.asg (.nm 2) (.bin .mod (.prm .int (.cons (.sub (.var 0) (.cst (.int 1))) .nil)) (.var 1))) (.cons (.seti (.var 0) (.cst (.int 1)) (.bin .fdiv (.sub (.var 0) (.cst (.int 1))) (.var 1))) (.cons (.ret (.var 2)) .nil))) .nil) (.cons (.seti (.var 0) (.cst (.int 0)) (.bin .mod (.prm .int (.cons (.bin .add (.bin .mul (.sub (.var 0) (.cst (.int 0))) (.cst (.int 48271))) (.cst (.int 11))) .nil)) (.cst (.int 2147483647)))) (.cons (.ret (.bin .mod (.prm .int (.cons (.bin .fdiv (.sub (.var 0) (.cst (.int 0))) (.cst (.int 64))) .nil)) (.var 1))) .nil))))
/-- _law_pick(_law_d, _law_items);  -/
def b39 : Ss := (.cons (.ret (.sub (.var 1) (.call 38 (.cons (.var 0) (.cons (.prm .len (.cons (.var 1) .nil)) .nil))))) .nil)
/-- _law_equal(_law_actual, _law_expected); _law_key, _law_k -/
def b40 : Ss := (.cons (.cnd (.cmp .isN (.var 1) (.cst .non)) (.cons (.ret (.cmp .isN (.var 0) (.cst .non))) .nil) .nil) (.cons (.cnd (.isi (.var 1) .bool) (.cons (.ret (.and (.isi (.var 0) .bool) (.cmp .eq (.var 0) (.var 1)))) .nil) .nil) (.cons (.cnd (.isi (.var 1) .int) (.cons (.ret (.and (.isi (.var 0) .int) (.and (.nt (.isi (.var 0) .bool)) (.cmp .eq (.var 0) (.var 1))))) .nil) .nil) (.cons (.cnd (.isi (.var 1) .str) (.cons (.ret (.and (.isi (.var 0) .str) (.cmp .eq (.var 0) (.var 1)))) .nil) .nil) (.cons (.cnd (.isi (.var 1) .dict) (.cons .dead (.cons .dead .nil)) .nil) (.cons (.cnd (.cmp .ne (.isi (.var 1) .tuple) (.isi (.var 0) .tuple)) (.cons (.ret (.cst (.bl false))) .nil) .nil) (.cons (.cnd (.cmp .ne (.isi (.var 1) .list) (.isi (.var 0) .list)) (.cons (.ret (.cst (.bl false))) .nil) .nil) (.cons (.cnd (.cmp .ne (.prm .len (.cons (.var 0) .nil)) (.prm .len (.cons (.var 1) .nil))) (.cons (.ret (.cst (.bl false))) .nil) .nil) (.cons (.ret (.prm .all (.cons (.fr (.cp (.nm 3) (.rg (.cons (.prm .len (.cons (.var 1) .nil)) .nil)) .no (.call 40 (.cons (.sub (.var 0) (.var 3)) (.cons (.sub (.var 1) (.var 3)) .nil))))) .nil))) .nil)))))))))
/-- _law_thrown(_law_k, _law_one);  -/
def b142 : Ss := (.cons (.cnd (.cmp .eq (.var 0) (.cst (.int 0))) (.cons (.rais 1 .nil) .nil) .nil) (.cons (.cnd (.cmp .eq (.var 0) (.cst (.int 1))) (.cons (.rais 2 .nil) .nil) .nil) (.cons (.cnd (.cmp .eq (.var 0) (.cst (.int 2))) (.cons (.rais 4 .nil) .nil) .nil) (.cons (.cnd (.cmp .eq (.var 0) (.cst (.int 3))) (.cons (.rais 12 .nil) .nil) .nil) (.cons (.cnd (.cmp .eq (.var 0) (.cst (.int 4))) (.cons (.rais 13 .nil) .nil) .nil) (.cons (.cnd (.cmp .eq (.var 0) (.cst (.int 5))) (.cons (.rais 15 .nil) .nil) .nil) (.cons (.cnd (.cmp .eq (.var 0) (.cst (.int 6))) (.cons (.rais 16 .nil) .nil) .nil) (.cons (.cnd (.cmp .eq (.var 0) (.cst (.int 7))) (.cons (.rais 3 (.cons (.var 1) .nil)) .nil) .nil) (.cons (.rais 18 (.cons (.var 1) .nil)) .nil)))))))))
/-- law(_law_script); _law_d, _law_k, _law_one, _law_good, _law_e, _law_other -/
def b56f0 : Ss := (.cons (.asg (.nm 3) (.call 39 (.cons (.var 1) (.cons (.fr (.lst (.cons (.cst (.str [97])) (.cons (.cst (.str [])) (.cons (.cst (.int 7)) (.cons (.cst .non) (.cons (.tup (.cons (.cst (.int 1)) .nil)) (.cons (.fr (.lst (.cons (.cst (.int 2)) .nil))) .nil)))))))) .nil)))) (.cons (.asg (.nm 4) (.cst (.bl false))) (.cons (.tr (.call 142 (.cons (.var 2) (.cons (.var 3) .nil))) (.cons 0 (some 5) 4 (.hx 0) .nil)) (.cons (.cnd (.nt (.var 4)) (.cons (.ret (.cst (.bl false))) .nil) .nil) .nil))))
def b56 : Ss := (.cons (.asg (.nm 1) (.call 37 (.cons (.var 0) (.cons (.cst (.int 533)) .nil)))) (.cons (.for (.nm 2) (.rg (.cons (.cst (.int 9)) .nil)) b56f0) (.cons (.ret (.cst (.bl true))) .nil)))
def fns : List (Nat × FDef) := [(37, ⟨2, 4, b37⟩), (38, ⟨2, 3, b38⟩), (39, ⟨2, 2, b39⟩), (40, ⟨2, 4, b40⟩), (142, ⟨2, 2, b142⟩), (56, ⟨1, 7, b56⟩)]
def mel : List ((Nat × Nat) × Nat) := []
def attl : List ((Nat × Nat) × Option Nat) := []
noncomputable def T : Tab := { fn := fun f => fns.lookup f, meth := fun c m => mel.lookup (c, m), init := fun c => [].lookup c, att := fun c a => attl.lookup (c, a), eqm := fun c => [].lookup c, lenm := fun c => [].lookup c, sup := fun c h => [(0, 0), (1, 1), (1, 0), (2, 2), (2, 0), (3, 3), (3, 0), (4, 4), (4, 0), (12, 12), (12, 0), (13, 13), (13, 0), (15, 15), (15, 0), (16, 16), (16, 0), (18, 18), (18, 0)].contains (c, h), exf := fun c => [(0, []), (1, []), (2, []), (3, [3]), (4, []), (12, []), (13, []), (15, []), (16, []), (18, [24])].lookup c, isC := fun c => [].contains c, hx := hx13 }
theorem fn37 : T.fn 37 = some ⟨2, 4, b37⟩ := rfl
theorem fn38 : T.fn 38 = some ⟨2, 3, b38⟩ := rfl
theorem fn39 : T.fn 39 = some ⟨2, 2, b39⟩ := rfl
theorem fn40 : T.fn 40 = some ⟨2, 4, b40⟩ := rfl
theorem fn142 : T.fn 142 = some ⟨2, 2, b142⟩ := rfl
theorem fn56 : T.fn 56 = some ⟨1, 7, b56⟩ := rfl
@[simp] theorem tX0 : T.exf 0 = some [] := rfl
@[simp] theorem tX1 : T.exf 1 = some [] := rfl
@[simp] theorem tX2 : T.exf 2 = some [] := rfl
@[simp] theorem tX3 : T.exf 3 = some [3] := rfl
@[simp] theorem tX4 : T.exf 4 = some [] := rfl
@[simp] theorem tX12 : T.exf 12 = some [] := rfl
@[simp] theorem tX13 : T.exf 13 = some [] := rfl
@[simp] theorem tX15 : T.exf 15 = some [] := rfl
@[simp] theorem tX16 : T.exf 16 = some [] := rfl
@[simp] theorem tX18 : T.exf 18 = some [24] := rfl
@[simp] theorem tS0_0 : T.sup 0 0 = true := rfl
@[simp] theorem tS0_1 : T.sup 0 1 = false := rfl
@[simp] theorem tS0_2 : T.sup 0 2 = false := rfl
@[simp] theorem tS0_3 : T.sup 0 3 = false := rfl
@[simp] theorem tS0_4 : T.sup 0 4 = false := rfl
@[simp] theorem tS0_12 : T.sup 0 12 = false := rfl
@[simp] theorem tS0_13 : T.sup 0 13 = false := rfl
@[simp] theorem tS0_15 : T.sup 0 15 = false := rfl
@[simp] theorem tS0_16 : T.sup 0 16 = false := rfl
@[simp] theorem tS0_18 : T.sup 0 18 = false := rfl
@[simp] theorem tS1_0 : T.sup 1 0 = true := rfl
@[simp] theorem tS1_1 : T.sup 1 1 = true := rfl
@[simp] theorem tS1_2 : T.sup 1 2 = false := rfl
@[simp] theorem tS1_3 : T.sup 1 3 = false := rfl
@[simp] theorem tS1_4 : T.sup 1 4 = false := rfl
@[simp] theorem tS1_12 : T.sup 1 12 = false := rfl
@[simp] theorem tS1_13 : T.sup 1 13 = false := rfl
@[simp] theorem tS1_15 : T.sup 1 15 = false := rfl
@[simp] theorem tS1_16 : T.sup 1 16 = false := rfl
@[simp] theorem tS1_18 : T.sup 1 18 = false := rfl
@[simp] theorem tS2_0 : T.sup 2 0 = true := rfl
@[simp] theorem tS2_1 : T.sup 2 1 = false := rfl
@[simp] theorem tS2_2 : T.sup 2 2 = true := rfl
@[simp] theorem tS2_3 : T.sup 2 3 = false := rfl
@[simp] theorem tS2_4 : T.sup 2 4 = false := rfl
@[simp] theorem tS2_12 : T.sup 2 12 = false := rfl
@[simp] theorem tS2_13 : T.sup 2 13 = false := rfl
@[simp] theorem tS2_15 : T.sup 2 15 = false := rfl
@[simp] theorem tS2_16 : T.sup 2 16 = false := rfl
@[simp] theorem tS2_18 : T.sup 2 18 = false := rfl
@[simp] theorem tS3_0 : T.sup 3 0 = true := rfl
@[simp] theorem tS3_1 : T.sup 3 1 = false := rfl
@[simp] theorem tS3_2 : T.sup 3 2 = false := rfl
@[simp] theorem tS3_3 : T.sup 3 3 = true := rfl
@[simp] theorem tS3_4 : T.sup 3 4 = false := rfl
@[simp] theorem tS3_12 : T.sup 3 12 = false := rfl
@[simp] theorem tS3_13 : T.sup 3 13 = false := rfl
@[simp] theorem tS3_15 : T.sup 3 15 = false := rfl
@[simp] theorem tS3_16 : T.sup 3 16 = false := rfl
@[simp] theorem tS3_18 : T.sup 3 18 = false := rfl
@[simp] theorem tS4_0 : T.sup 4 0 = true := rfl
@[simp] theorem tS4_1 : T.sup 4 1 = false := rfl
@[simp] theorem tS4_2 : T.sup 4 2 = false := rfl
@[simp] theorem tS4_3 : T.sup 4 3 = false := rfl
@[simp] theorem tS4_4 : T.sup 4 4 = true := rfl
@[simp] theorem tS4_12 : T.sup 4 12 = false := rfl
@[simp] theorem tS4_13 : T.sup 4 13 = false := rfl
@[simp] theorem tS4_15 : T.sup 4 15 = false := rfl
@[simp] theorem tS4_16 : T.sup 4 16 = false := rfl
@[simp] theorem tS4_18 : T.sup 4 18 = false := rfl
@[simp] theorem tS12_0 : T.sup 12 0 = true := rfl
@[simp] theorem tS12_1 : T.sup 12 1 = false := rfl
@[simp] theorem tS12_2 : T.sup 12 2 = false := rfl
@[simp] theorem tS12_3 : T.sup 12 3 = false := rfl
@[simp] theorem tS12_4 : T.sup 12 4 = false := rfl
@[simp] theorem tS12_12 : T.sup 12 12 = true := rfl
@[simp] theorem tS12_13 : T.sup 12 13 = false := rfl
@[simp] theorem tS12_15 : T.sup 12 15 = false := rfl
@[simp] theorem tS12_16 : T.sup 12 16 = false := rfl
@[simp] theorem tS12_18 : T.sup 12 18 = false := rfl
@[simp] theorem tS13_0 : T.sup 13 0 = true := rfl
@[simp] theorem tS13_1 : T.sup 13 1 = false := rfl
@[simp] theorem tS13_2 : T.sup 13 2 = false := rfl
@[simp] theorem tS13_3 : T.sup 13 3 = false := rfl
@[simp] theorem tS13_4 : T.sup 13 4 = false := rfl
@[simp] theorem tS13_12 : T.sup 13 12 = false := rfl
@[simp] theorem tS13_13 : T.sup 13 13 = true := rfl
@[simp] theorem tS13_15 : T.sup 13 15 = false := rfl
@[simp] theorem tS13_16 : T.sup 13 16 = false := rfl
@[simp] theorem tS13_18 : T.sup 13 18 = false := rfl
@[simp] theorem tS15_0 : T.sup 15 0 = true := rfl
@[simp] theorem tS15_1 : T.sup 15 1 = false := rfl
@[simp] theorem tS15_2 : T.sup 15 2 = false := rfl
@[simp] theorem tS15_3 : T.sup 15 3 = false := rfl
@[simp] theorem tS15_4 : T.sup 15 4 = false := rfl
@[simp] theorem tS15_12 : T.sup 15 12 = false := rfl
@[simp] theorem tS15_13 : T.sup 15 13 = false := rfl
@[simp] theorem tS15_15 : T.sup 15 15 = true := rfl
@[simp] theorem tS15_16 : T.sup 15 16 = false := rfl
@[simp] theorem tS15_18 : T.sup 15 18 = false := rfl
@[simp] theorem tS16_0 : T.sup 16 0 = true := rfl
@[simp] theorem tS16_1 : T.sup 16 1 = false := rfl
@[simp] theorem tS16_2 : T.sup 16 2 = false := rfl
@[simp] theorem tS16_3 : T.sup 16 3 = false := rfl
@[simp] theorem tS16_4 : T.sup 16 4 = false := rfl
@[simp] theorem tS16_12 : T.sup 16 12 = false := rfl
@[simp] theorem tS16_13 : T.sup 16 13 = false := rfl
@[simp] theorem tS16_15 : T.sup 16 15 = false := rfl
@[simp] theorem tS16_16 : T.sup 16 16 = true := rfl
@[simp] theorem tS16_18 : T.sup 16 18 = false := rfl
@[simp] theorem tS18_0 : T.sup 18 0 = true := rfl
@[simp] theorem tS18_1 : T.sup 18 1 = false := rfl
@[simp] theorem tS18_2 : T.sup 18 2 = false := rfl
@[simp] theorem tS18_3 : T.sup 18 3 = false := rfl
@[simp] theorem tS18_4 : T.sup 18 4 = false := rfl
@[simp] theorem tS18_12 : T.sup 18 12 = false := rfl
@[simp] theorem tS18_13 : T.sup 18 13 = false := rfl
@[simp] theorem tS18_15 : T.sup 18 15 = false := rfl
@[simp] theorem tS18_16 : T.sup 18 16 = false := rfl
@[simp] theorem tS18_18 : T.sup 18 18 = true := rfl
abbrev lawId : Nat := 56
end CFP
/-! CFLink -/
/-! The law's promise from its text in the small language: tables, the world, the entry. -/
namespace CF
open PySem PySem.Spec L2
/-! ### names by number -/
def nameOf (l : List Str) (b i : Nat) : Str := l.getD i ⟨#[2 * i + b]⟩
def longB (l : List Str) : Bool := l.all fun x => decide (x.cps.size ≠ 1)
theorem nameOf_cases (l : List Str) (b i : Nat) : (∃ h : i < l.length, nameOf l b i = l[i]) ∨ (l.length ≤ i ∧ nameOf l b i = ⟨#[2 * i + b]⟩) := by
  unfold nameOf
  rw [List.getD_eq_getElem?_getD]
  rcases Nat.lt_or_ge i l.length with h | h
  · exact .inl ⟨h, by rw [List.getElem?_eq_getElem h]; rfl⟩
  · exact .inr ⟨h, by rw [List.getElem?_eq_none h]; rfl⟩
theorem long_at {l : List Str} (h : longB l = true) {i : Nat} (hi : i < l.length) {n : Nat} : l[i] ≠ ⟨#[n]⟩ := by
  intro e
  have q := List.all_eq_true.mp h _ (List.getElem_mem hi)
  rw [e] at q
  simp at q
theorem nameOf_inj {l : List Str} {b : Nat} (nd : l.Nodup) (hl : longB l = true) {i j : Nat} (e : nameOf l b i = nameOf l b j) : i = j := by
  rcases nameOf_cases l b i with ⟨hi, ei⟩ | ⟨hi, ei⟩ <;> rcases nameOf_cases l b j with ⟨hj, ej⟩ | ⟨hj, ej⟩
  · rw [ei, ej] at e
    exact (List.getElem_inj nd).mp e
  · rw [ei, ej] at e
    exact absurd e (long_at hl hi)
  · rw [ei, ej] at e
    exact absurd e.symm (long_at hl hj)
  · rw [ei, ej] at e
    injection e with e
    injection e with e
    injection e with e _
    omega
theorem nameOf_ne {l m : List Str} (hlm : (l.all fun x => !m.contains x) = true) (hl : longB l = true) (hm : longB m = true) {i j : Nat} : nameOf l 1 i ≠ nameOf m 0 j := by
  intro e
  rcases nameOf_cases l 1 i with ⟨hi, ei⟩ | ⟨hi, ei⟩ <;> rcases nameOf_cases m 0 j with ⟨hj, ej⟩ | ⟨hj, ej⟩
  · rw [ei, ej] at e
    have q := List.all_eq_true.mp hlm _ (List.getElem_mem hi)
    rw [e] at q
    have z : m.contains m[j] = true := List.contains_iff_mem.mpr (List.getElem_mem hj)
    rw [z] at q
    cases q
  · rw [ei, ej] at e
    exact long_at hl hi e
  · rw [ei, ej] at e
    exact long_at hm hj e.symm
  · rw [ei, ej] at e
    injection e with e
    injection e with e
    injection e with e _
    omega
/-! ### tables -/
def allL {α β : Type} (P : α → β → Prop) : List (α × β) → Prop
  | [] => True
  | (a, b) :: r => P a b ∧ allL P r
theorem allL_at {α β : Type} [BEq α] [LawfulBEq α] {P : α → β → Prop} : ∀ {l : List (α × β)}, allL P l → ∀ {k : α} {v : β}, l.lookup k = some v → P k v
  | (a, b) :: r, h, k, v, e => by
    rw [List.lookup_cons] at e
    split at e
    · rename_i q
      have q' := eq_of_beq q
      subst q'
      cases e
      exact h.1
    · exact allL_at h.2 e
theorem allL_get {α β : Type} [BEq α] [LawfulBEq α] {P : α → β → Prop} {l : List (α × β)} (h : allL P l) {k : α} (e : (l.lookup k).isSome = true) {z : β} : P k ((l.lookup k).getD z) := by
  cases q : l.lookup k with
  | none => rw [q] at e; cases e
  | some v => exact allL_at h q
def allM {α : Type} (P : α → Prop) : List α → Prop
  | [] => True
  | a :: r => P a ∧ allM P r
theorem allM_at {α : Type} [BEq α] [LawfulBEq α] {P : α → Prop} : ∀ {l : List α}, allM P l → ∀ {k : α}, l.contains k = true → P k
  | [], _, _, e => by cases e
  | a :: r, h, k, e => by
    rw [List.contains_cons] at e
    cases q : k == a with
    | true =>
      have q' := eq_of_beq q
      subst q'
      exact h.1
    | false =>
      rw [q] at e
      exact allM_at h.2 (by simpa using e)
theorem cls_of {o : Nat → Option Addr} {c : Nat} {C0 : Addr} {Q : Addr → Prop} (h : o c = some C0) (q : Q C0) : ∀ C, o c = some C → Q C := fun C e => by
  cases h.symm.trans e
  exact q
/-! ### exceptions -/
theorem exm_of {K : PySem.W.Frag} {C S : Addr} {b : Bool} (h1 : PySem.W.subIn K (.ref S) (.type "BaseException") = some true) (h2 : PySem.W.isClsIn K S = true) (h3 : PySem.W.typeIn K (.ref S) = some (.type "type")) (h4 : PySem.W.subIn K (.ref C) (.ref S) = some b) : PySem.W.exmOne K (.ref C) (.ref S) = some b := by
  have e1 : (PySem.W.subIn K (.ref S) (.type "BaseException") == some true) = true := by rw [h1]; rfl
  have e2 : ((PySem.W.clsIn K S).isSome && PySem.W.typeIn K (.ref S) == some (.type "type")) = true := by
    rw [show (PySem.W.clsIn K S).isSome = true from h2, h3]; rfl
  unfold PySem.W.exmOne PySem.W.kitCls
  rw [if_pos e1]
  simp only [if_pos e2]
  exact h4
/-! ### the law's own promise -/
def spL (K : PySem.W.Frag) : Sp := fun vs H Q _ => ∃ (a : Addr) (ns : List Int), vs = [.ref a] ∧ ns.length ≤ 63 ∧ Only H ∧ SqL K H a (ns.map V.int) ∧ ∀ H', Q (.bl true) H'
/-- what is to be shown of the law in the small language -/
def Law (T : Tab) (n f : Nat) : Prop := ∀ ns : List Int, ns.length ≤ 63 → ∃ st, callN T n f [.scr ns] [] = .ok (.bl true) st
theorem spL_sp {W : Wld} {n f : Nat} (law : Law W.T n f) (vs : List V) (H : Hp) (Q : VK) (E : XK) (h : spL W.K vs H Q E) : sp W n f vs H Q E := by
  obtain ⟨a, ns, rfl, hl, ho, hs, hq⟩ := h
  obtain ⟨st', e⟩ := law ns hl
  refine ⟨⟨fun _ => none, W.f0, some (a, ns), [], fun _ => none⟩, [], [.scr ns], ?_, .cons rfl .nil, ?_⟩
  · refine ⟨fun a d z => (by cases z), rfl, fun b l z => ?_, rfl, .nil, fun n o b z => (by cases z), fun i b z => absurd (show ([] : List Addr)[i]? = some b from z) (by simp), fun b d z => (by cases z), fun b z => (by cases z), fun b o z => (by cases z)⟩
    cases z
    rcases hs with h | h
    · rcases h with h | ⟨o, h⟩
      · rcases ho a with q | ⟨o, xs, q⟩
        · rw [q] at h; cases h
        · rw [q] at h; cases h
      · exact .inl ⟨List.not_mem_nil, o, h⟩
    · exact .inr fun H' => .inr h
  · show AftC W _ H (callN W.T n f [D.scr ns] []) Q E
    rw [e]
    intro g' H' hs' fr v rv
    cases RV.bl_inv rv
    exact hq H'
theorem fnOk_law {P : Program} {w : World} {K : PySem.W.Frag} {mg : Str → Option Value} {base : Heap} {W : Wld} {n k f : Nat} {fa : Addr} {fd : FuncData} {x : Str} (hK : W.K = K) (law : Law W.T n f) (F : FnOk P w K mg base (L2N.CX P w) k fa fd [x] (sp W n f)) : FnOk P w K mg base (L2N.CX P w) k fa fd [x] (spL K) := by
  subst hK
  exact F.imp fun vs H Q E h => spL_sp law vs H Q E h
/-- the end: what k_head leaves -/
theorem walk_law {l : PySem.W.OpenLaw} {q : Program} {loose : List Str} {XP : (Str → Option Value) → Heap → Prop} {YP : World → Heap → Prop} {d : DefRec} {K : Params → PySem.W.Frag} {k : Nat} {x : Str} (hn : l.most = some 63) (hk : k ≤ 231) (hdf : d.params.defaults = [])
    (hY : ∀ (w : World) (h : Heap), YP w h → (K w.params).In h)
    (F : ∀ (w : World) (mg : Str → Option Value) (fa : Addr) (h : Heap), (K w.params).In h → h.Ns mainGlobals mg → mg d.name = some (.ref fa) →
      ∃ fd : FuncData, (∀ (s : Shared) (u : Value), BindsTo s fd ⟨[u], []⟩ [(x, u)]) ∧ ∀ base : Heap, (K w.params).In base → base.Ns mainGlobals mg → FnOk l.prog w (K w.params) mg base (L2N.CX l.prog w) k fa fd [x] (spL (K w.params))) :
    PySem.W.WalkO q loose XP YP l.row.toRowW d [] (fun f vs => PySem.call f vs) := by
  refine L2.walk_of (n := 63) (k := k) (x := x) (CX := fun w => L2N.CX l.prog w) (sp := fun w => spL (K w.params)) hn (by decide) hdf ?_ hY F (fun w H a ns hl ho hs => ⟨a, ns, rfl, hl, ho, hs, fun H' => rfl⟩) fun w H s e s' z => ?_
  · exact Room.mono (k := 231) ⟨rfl, by decide, by decide⟩ hk
  · obtain ⟨_, _, _, _, _, _, _, _, _, _, _, _, z⟩ := z
    exact z
/-- a class that no other exception is a child of -/
theorem only_of {l : List (Nat × List Nat)} {o : List Nat} {sup : Nat → Nat → Bool} (h : (o.all fun h => l.all fun p => !sup p.1 h || p.1 == h) = true) (k : Nat) (e : o.contains k = true) (c : Nat) (hc : (l.lookup c).isSome = true) (s : sup c k = true) : c = k := by
  have h1 := List.all_eq_true.mp h k (List.contains_iff_mem.mp e)
  obtain ⟨v, hv⟩ := Option.isSome_iff_exists.mp hc
  have m : (c, v) ∈ l := by
    clear h1 h
    induction l with
    | nil => cases hv
    | cons p r ih =>
      obtain ⟨a, b⟩ := p
      rw [List.lookup_cons] at hv
      split at hv
      · rename_i q
        cases hv
        rw [eq_of_beq q]
        exact List.mem_cons_self ..
      · exact List.mem_cons_of_mem _ (ih (by rw [hv]; rfl) hv)
  have h2 := List.all_eq_true.mp h1 _ m
  simp only [s, Bool.not_true, Bool.false_or, beq_iff_eq] at h2
  exact h2
end CF
/-! Chk0 -/
namespace CFP
open PySem CF L2
def top (i : Nat) : Stmt := PySem.Challenge.pw_clauseforms_k13_errors_apart.main.body.getD i (.Pass ⟨0, 0, 0, 0⟩)
abbrev NN : Nat := 40
def gnl : List (Nat × Str) := [(37, ("_law_random" : Str)), (38, ("_law_below" : Str)), (39, ("_law_pick" : Str)), (40, ("_law_equal" : Str)), (142, ("_law_thrown" : Str)), (56, ("law" : Str))]
def cnl : List (Nat × Str) := [(0, ("FormError" : Str)), (1, ("BadQuestions" : Str)), (2, ("BadLists" : Str)), (3, ("BadBody" : Str)), (4, ("BadCase" : Str)), (12, ("UnknownReference" : Str)), (13, ("UnknownMark" : Str)), (15, ("NothingAsked" : Str)), (16, ("BadAnswer" : Str)), (18, ("InvalidLine" : Str))]
def anl : List Str := [("questions" : Str), ("lists" : Str), ("body" : Str), ("index" : Str), ("level" : Str), ("ifs" : Str), ("in_each" : Str), ("questions_told" : Str), ("lists_told" : Str), ("own_questions" : Str), ("own_lists" : Str), ("own_body" : Str), ("number" : Str), ("own_part" : Str), ("answers_by" : Str), ("lengths_by" : Str), ("standings" : Str), ("mark" : Str), ("piece" : Str), ("first_cases" : Str), ("list_names" : Str), ("forms_by" : Str), ("form_used" : Str), ("given" : Str), ("line" : Str), ("lines_told" : Str), ("next_at" : Str), ("marks_used" : Str), ("many_parts" : Str)]
def mnl : List Str := [("is_piece" : Str), ("are_pieces" : Str), ("is_block" : Str), ("is_part" : Str), ("go_through" : Str), ("found" : Str), ("at_number" : Str), ("words" : Str), ("place" : Str), ("names" : Str), ("asked" : Str), ("answer" : Str), ("known" : Str), ("cases" : Str), ("stands_in" : Str), ("sure" : Str), ("unsure" : Str), ("printed" : Str), ("undo" : Str), ("is_over" : Str), ("need" : Str), ("words_at" : Str), ("block" : Str), ("part" : Str), ("pieces" : Str), ("piece_of" : Str)]
def gcl : List (Str × D) := []
def bil : List Str := [("len" : Str), ("list" : Str), ("tuple" : Str), ("sorted" : Str), ("dict" : Str), ("sum" : Str), ("max" : Str), ("min" : Str), ("abs" : Str), ("int" : Str), ("str" : Str), ("all" : Str), ("any" : Str), ("set" : Str), ("zip" : Str), ("range" : Str), ("enumerate" : Str), ("isinstance" : Str), ("bool" : Str)]
def kdl : List (Str × List (List Nat × D)) := []
def inl : List (Nat × Nat) := []
def exl : List (Nat × List Nat) := [(0, []), (1, []), (2, []), (3, [3]), (4, []), (12, []), (13, []), (15, []), (16, []), (18, [24])]
def onl : List Nat := [3, 18]
def gnF (f : Nat) : Str := (gnl.lookup f).getD ""
def isGF (f : Nat) : Bool := (gnl.lookup f).isSome
def cnF (c : Nat) : Str := (cnl.lookup c).getD ""
def nms0 : Nms := { gn := gnF, isG := isGF, cn := cnF, mn := nameOf mnl 1, an := nameOf anl 0, gc := fun x => gcl.lookup x, bi := fun x => bil.contains x, isC := fun c => [].contains c, hasInit := fun c => (inl.lookup c).isSome, exf := fun c => exl.lookup c, only := fun c => onl.contains c, kd := fun x => kdl.lookup x }
end CFP
/-! OK13 -/
/-! k13: the suite of the law, told from its text. -/
namespace CFP
open PySem CF L2
/-- [_law_other == _law_k for _law_other in range(9)] -/
def lcE : E := .fr (.cp (.nm 6) (.rg (.cons (.cst (.int 9)) .nil)) .no (.cmp .eq (.var 6) (.var 2)))
/-- _law_one if _law_k > 6 else None -/
def ieE : E := .ite (.cmp .gt (.var 2) (.cst (.int 6))) (.var 3) (.cst .non)
def noSc : Scope := { kind := .function, names := [], isGenerator := false, isCoroutine := false, more := [] }
def okS1 (N : List Str) (sc : Scope) : Stmt → Bool
  | .Assign [.Name g1 _] (.BoolOp .And [.Call (.Name i1 _) [.Name e1 _, .Name v1 _] [] _, .Compare (.Call (.Name c1 _) [.Name e2 _] [] _) [o] [lc] _] _) _ =>
    cmE o .eq && i1 == ("isinstance" : Str) && v1 == ("ValueError" : Str) && c1 == ("_law_classes" : Str) && e2 == e1 && slotB N 4 g1 && (sc.names.lookup g1 == some .local) && slotB N 5 e1 && visB sc e1 && okNm e1 && glB sc i1 && glB sc v1 && glB sc c1 && plainIt lc && chkE nms0 N lcE sc (some noSc) lc
  | _ => false
def okS2 (N : List Str) (sc : Scope) : Stmt → Bool
  | .Assign [.Name g1 _] (.BoolOp .And [.Name g2 _, .Call (.Name q1 _) [.Call (.Name f1 _) [.Name k1 _, .Name e1 _] [] _, ie] [] _] _) _ =>
    g2 == g1 && q1 == ("_law_equal" : Str) && f1 == ("_law_field" : Str) && slotB N 4 g1 && (sc.names.lookup g1 == some .local) && okNm g1 && slotB N 5 e1 && visB sc e1 && okNm e1 && slotB N 2 k1 && visB sc k1 && okNm k1 && glB sc q1 && glB sc f1 && notStar ie && chkE nms0 N ieE sc (some noSc) ie
  | _ => false
def ok13 (N : List Str) (sc : Scope) (body : List Stmt) : Bool := (match sc.kind with | .function => true | _ => false) && (match body with
  | [a, b] => okS1 N sc a && okS2 N sc b
  | _ => false)
def p13 : HSt := { i := 5, x := 4, ok := ok13 }
end CFP
/-! Chk -/
namespace CFP
open PySem CF L2
def nms : Nms := { nms0 with hs := fun j => if j = 0 then some p13 else none }
abbrev zsC : Stmt := (top 17)
theorem zcC : L2.FnScope [("_law_e" : Str), ("_law_found" : Str)] [("_law_e" : Str)] (L2.defScope zsC) := ⟨rfl, rfl, rfl, by decide +kernel, rfl, by decide +kernel, by decide +kernel⟩
abbrev zsF : Stmt := (top 18)
theorem zcF : L2.FnScope [("_law_k" : Str), ("_law_e" : Str)] [("_law_k" : Str), ("_law_e" : Str)] (L2.defScope zsF) := ⟨rfl, rfl, rfl, by decide +kernel, rfl, by decide +kernel, by decide +kernel⟩
abbrev zs37 : Stmt := (top 12)
abbrev zn37 : List Str := [("_law_script" : Str), ("_law_salt" : Str), ("_law_seed" : Str), ("_law_cell" : Str)]
theorem zc37 : L2.FnScope zn37 [("_law_script" : Str), ("_law_salt" : Str)] (L2.defScope zs37) := ⟨rfl, rfl, rfl, by decide +kernel, rfl, by decide +kernel, by decide +kernel⟩
theorem zk37 : chkSs nms zn37 (L2.defScope zs37) b37 (L2.defBody zs37) = true := by decide +kernel
abbrev zs38 : Stmt := (top 13)
abbrev zn38 : List Str := [("_law_d" : Str), ("_law_size" : Str), ("_law_result" : Str)]
theorem zc38 : L2.FnScope zn38 [("_law_d" : Str), ("_law_size" : Str)] (L2.defScope zs38) := ⟨rfl, rfl, rfl, by decide +kernel, rfl, by decide +kernel, by decide +kernel⟩
theorem zk38 : chkSs nms zn38 (L2.defScope zs38) b38 (L2.defBody zs38) = true := by decide +kernel
abbrev zs39 : Stmt := (top 14)
abbrev zn39 : List Str := [("_law_d" : Str), ("_law_items" : Str)]
theorem zc39 : L2.FnScope zn39 [("_law_d" : Str), ("_law_items" : Str)] (L2.defScope zs39) := ⟨rfl, rfl, rfl, by decide +kernel, rfl, by decide +kernel, by decide +kernel⟩
theorem zk39 : chkSs nms zn39 (L2.defScope zs39) b39 (L2.defBody zs39) = true := by decide +kernel
abbrev zs40 : Stmt := (top 15)
abbrev zn40 : List Str := [("_law_actual" : Str), ("_law_expected" : Str), ("_law_key" : Str), ("_law_k" : Str)]
theorem zc40 : L2.FnScope zn40 [("_law_actual" : Str), ("_law_expected" : Str)] (L2.defScope zs40) := ⟨rfl, rfl, rfl, by decide +kernel, rfl, by decide +kernel, by decide +kernel⟩
theorem zk40 : chkSs nms zn40 (L2.defScope zs40) b40 (L2.defBody zs40) = true := by decide +kernel
abbrev zs142 : Stmt := (top 16)
abbrev zn142 : List Str := [("_law_k" : Str), ("_law_one" : Str)]
theorem zc142 : L2.FnScope zn142 [("_law_k" : Str), ("_law_one" : Str)] (L2.defScope zs142) := ⟨rfl, rfl, rfl, by decide +kernel, rfl, by decide +kernel, by decide +kernel⟩
theorem zk142 : chkSs nms zn142 (L2.defScope zs142) b142 (L2.defBody zs142) = true := by decide +kernel
abbrev zs56 : Stmt := (top 19)
abbrev zn56 : List Str := [("_law_script" : Str), ("_law_d" : Str), ("_law_k" : Str), ("_law_one" : Str), ("_law_good" : Str), ("_law_e" : Str), ("_law_other" : Str)]
theorem zc56 : L2.FnScope zn56 [("_law_script" : Str)] (L2.defScope zs56) := ⟨rfl, rfl, rfl, by decide +kernel, rfl, by decide +kernel, by decide +kernel⟩
theorem zk56 : chkSs nms zn56 (L2.defScope zs56) b56 (L2.defBody zs56) = true := by decide +kernel
theorem zk40h : chkSs nms0 zn40 (L2.defScope zs40) b40 (L2.defBody zs40) = true := by decide +kernel
abbrev xz3 : Stmt := inClass (top 4) 0
abbrev xz18 : Stmt := inClass (top 10) 0
end CFP
/-! CFHot1 -/
set_option maxHeartbeats 1000000
/-! A list comprehension over a range, where an exception is handled. -/
namespace CF
open PySem PySem.Spec PyProof.Rows L2 L2H HotX
/-- the context of a block within a suite: the handled exception stays pinned -/
abbrev HB (X : Cx) (p : Addr × Obj) (s : Shared) (H : Hp) (scope : Scope) (ce : PySem.Env) (fp : List Addr) : Cx := (X.blk s H scope ce fp).tr [p] (fun _ _ => False)
section
variable {X : Cx} {p : Addr × Obj} {pins : List (Addr × Obj)} {σ : L2.St} {H : Hp} {s : Shared} {scope : Scope} {own : List (Str × Nat)} {fp : List Addr}
/-- what is pinned at the start of a block -/
theorem hb_start (I : Inv X pins σ H s) (hp : p ∈ X.pn) (ok : BlkOk X.N X.env.scope scope own) (hN : X.N.Nodup) (hfp : ∀ b ∈ fp, FpOk X pins H b ∧ b < s.heap.objs.size) :
    Inv (HB X p s H scope (compEnvC scope (cellsFrom (s.heap.objs.size + 1) scope.names (cloFrom X.env.cells scope.names [])) s.heap.objs.size X.env) fp) [] (wipe σ (own.map (·.2))) H { s with heap := pushCells (s.heap.push { cls := .type "dict", data := .dict #[] }) scope.names } := by
  obtain ⟨g1, g2, g3, g4, g5⟩ := I.pin p (List.mem_append_left _ hp)
  have J := (block_start I ok hN hfp).pins_of (pins' := [p]) fun q hq => by
    rw [List.mem_singleton.mp hq]
    exact ⟨pushCells_keeps _ _ _ _ (Heap.get?_push_of_some _ g1), g2, Nat.ne_of_lt (Heap.lt_size g1), fun hm => (List.mem_cons.mp (I.stkSub p.1 hm)).elim g3 g4, g5⟩
  exact J.toTry _
theorem hb_hot {s0 : Shared} {H0 : Hp} {ce : PySem.Env} (hot : Hot1 X.A p) : HotC (HB X p s0 H0 scope ce fp) := ⟨p, hot, List.mem_singleton.mpr rfl⟩
/-- the iterator's objects in a block -/
theorem hb_fp {s0 : Shared} {H0 H' : Hp} {ce : PySem.Env} {σ' : L2.St} {s' : Shared} (hne : ∀ b ∈ fp, p.1 ≠ b) (I : Inv (HB X p s0 H0 scope ce fp) [] σ' H' s') (hn : ∀ b ∈ fp, H' b = none) : ∀ b ∈ fp, FpOk (HB X p s0 H0 scope ce fp) [] H' b := fun b hb =>
  ⟨hn b hb, (I.ok.exf b hb).1, I.ok.exfs b hb, .inl hb, fun x c e => (I.ok.exf b hb).2 x c e, fun q hq => by
    have e : q = p := by simpa using hq
    rw [e]
    exact hne b hb⟩
end
section
variable {Y : Cx} {it D : Addr} {fp : List Addr} {tn : Nat → Heap → Prop} {J : It} {tg elt : Expr} {ifs : List Expr} {g : TG} {tt : TT} {te : TE} {W : Nat → Nat → Hp → Prop} {σw : L2.St} {Q : VK}
/-- where the loop stands -/
def LcAt (Y : Cx) (fp : List Addr) (tn : Nat → Heap → Prop) (W : Nat → Nat → Hp → Prop) (σw : L2.St) (n : Nat) (s : Shared) : Prop := ∃ i H, Inv Y [] σw H s ∧ tn i s.heap ∧ (∀ b ∈ fp, H b = none) ∧ W i n H
/-- what a turn comes to -/
def LcTurn (D : Addr) (J : It) (g : TG) (tt : TT) (te : TE) (σw : L2.St) (vs : List Nat) (W : Nat → Nat → Hp → Prop) (Q : VK) (i n : Nat) (H : Hp) : Prop :=
  (J.stop i H ∧ Q (.ref D) H) ∨ (J.go i H ∧ ∃ Nx : Hp → Prop, (∀ H', Nx H' → ∃ m', m' < n ∧ W (i + 1) m' H') ∧ ∀ x H', J.yld i H x H' → g x σw H' fun σ2 H2 => wipe σ2 vs = σw ∧ tt σ2 H2 fun b H3 => if b = true then te σ2 H3 fun y H4 => ∃ acc, H4 D = some (.lst acc) ∧ acc.length < sizeLine ∧ Nx (upd H4 D (.lst (acc ++ [y]))) else Nx H3)
theorem lc_turn {R : Result → Shared → Prop} {E : Value → Shared → Prop} {vs : List Nat} {i n : Nat} {H : Hp} {s : Shared} (T : TurnH Y.prog Y.w Y.K tg J fp it tn) (hot : HotC Y) (pg : PG Y tg g) (pt : PTs Y ifs tt) (pe : PE Y elt te) (hxe : Y.xe = fun _ _ => False)
    (fpo : ∀ {σ' H' s'}, Inv Y [] σ' H' s' → (∀ b ∈ fp, H' b = none) → ∀ b ∈ fp, FpOk Y [] H' b) (I : Inv Y [] σw H s) (st : tn i s.heap) (nf : ∀ b ∈ fp, H b = none) (w : LcTurn D J g tt te σw vs W Q i n H)
    (back : ∀ s', Inv Y [] σw H s' → Q (.ref D) H → R (.ok .next) s') :
    wpAny (model Y.prog Y.w) Y.A (pyNext (.ref it)) (fun r s₁ => match r with
      | none => R (.ok .next) s₁
      | some v => wpAny (model Y.prog Y.w) Y.A (letOwnedTupleGo tg (.ref it) v) (fun _ s₂ => wpAny (model Y.prog Y.w) Y.A (assign tg Y.env v) (fun _ s₃ =>
          wpAny (model Y.prog Y.w) Y.A (forIn ifs true fun c r => if r = true then do let ok ← isTrue c Y.env (eval c Y.env); pure (ForInStep.yield ok) else pure (ForInStep.yield r)) (fun ok s₄ =>
            if ok = true then wpAny (model Y.prog Y.w) Y.A (eval elt Y.env) (fun x s₅ =>
              wpAny (model Y.prog Y.w) Y.A (call (.builtin "list.append") [.ref D, x]) (fun _ s₆ => ∃ m, m < n ∧ LcAt Y fp tn W σw m s₆) E s₅) E s₄
            else ∃ m, m < n ∧ LcAt Y fp tn W σw m s₄) E s₃) E s₂) E s₁) E s := by
  rcases w with ⟨stop, qq⟩ | ⟨go, Nx, hNx, step⟩
  · refine thnF (T.done Y rfl rfl rfl hot i [] s σw H (fun _ _ => False) I (fpo I nf) st stop) fun r s' hr => ?_
    rw [hr.1]
    exact back s' hr.2 qq
  · refine thnF (T.item Y rfl rfl rfl hot i [] s σw H (fun _ _ => False) I (fpo I nf) st go) fun r s1 ⟨u, hr, h1⟩ => ?_
    rw [hr]
    refine thnF h1 fun _ s2 ⟨x, H2, I2, rx, yx, st2, n2⟩ => ?_
    have I2p := I2.pinned (fpo I2 n2) (T.obj _ _ st2)
    have pgr := pg.run _ s2 σw H2 x u _ I2p rx (step x H2 yx)
    rw [hxe] at pgr
    refine thnF pgr fun _ s3 ⟨σ3, H3, I3, hw3, q3⟩ => ?_
    have ptr := pt.run _ s3 σ3 H3 _ I3 q3
    rw [hxe] at ptr
    refine thnF ptr fun b s4 ⟨H4, I4, q4⟩ => ?_
    have done : ∀ {s' : Shared} {H' : Hp}, Inv Y ([] ++ pinsAt fp s2.heap) σ3 H' s' → Nx H' → ∃ m, m < n ∧ LcAt Y fp tn W σw m s' := fun {s' H'} I' nx => by
      obtain ⟨m', hm, w'⟩ := hNx _ nx
      have stay : ∀ b ∈ fp, ∀ o, s2.heap.get? b = some o → s'.heap.get? b = some o ∧ H' b = none := fun b hb o e => by
        have z := I'.pin (b, o) (List.mem_append_right _ (List.mem_append_right _ (mem_pinsAt hb e)))
        exact ⟨z.1, z.2.1⟩
      have ln : σw.length = σ3.length := by rw [← hw3, wipe_length]
      refine ⟨m', hm, i + 1, _, (I'.unpinned (pins := [])).weak ln (fun j v e => ?_), T.keep _ _ _ st2 fun b hb o e => (stay b hb o e).1, fun b hb => ?_, w'⟩
      · rw [← hw3] at e
        exact (wipe_some e).1
      · obtain ⟨o, e, _⟩ := T.obj _ _ st2 b hb
        exact (stay b hb o e).2
    cases b with
    | false =>
      rw [if_neg (by simp)] at q4 ⊢
      exact done I4 q4
    | true =>
      rw [if_pos rfl] at q4 ⊢
      have per := pe.run _ s4 σ3 H4 _ I4 q4
      rw [hxe] at per
      exact thnF per fun z s5 ⟨y, H5, I5, ry, acc, hD, hz, nx⟩ => app_ok (X := Y) I5 hD hz ry fun s6 I6 => done I6 nx
end
section
variable {X : Cx} {p : Addr × Obj} {pins : List (Addr × Obj)} {σ : L2.St} {H : Hp} {s : Shared} {elt tg iter : Expr} {ifs : List Expr} {scope : Scope} {own : List (Str × Nat)} {pos : Pos} {wi : TI} {g : TG} {tt : TT} {te : TE} {Q : VK} {it : Addr} {fp : List Addr} {tn : Nat → Heap → Prop} {J : It}
/-- the block runs -/
theorem block_run (hot : Hot1 X.A p) (hp : p ∈ X.pn) (hN : X.N.Nodup) (ok : BlkOk X.N X.env.scope scope own)
    (hg : ∀ (s : Shared) (H : Hp) (C : Addr) (cl : List (Str × Addr)) (fp : List Addr), PG (HB X p s H scope (compEnvC scope cl C X.env) fp) tg g)
    (ht : ∀ (s : Shared) (H : Hp) (C : Addr) (cl : List (Str × Addr)) (fp : List Addr), PTs (HB X p s H scope (compEnvC scope cl C X.env) fp) ifs tt)
    (he : ∀ (s : Shared) (H : Hp) (C : Addr) (cl : List (Str × Addr)) (fp : List Addr), PE (HB X p s H scope (compEnvC scope cl C X.env) fp) elt te)
    (I : Inv X pins σ H s) (T : TurnH X.prog X.w X.K tg J fp it tn) (st : tn 0 s.heap) (hf : ∀ b ∈ fp, FpOk X pins H b)
    (q : ∀ D, H D = none → ∃ W : Nat → Nat → Hp → Prop, (∃ m, W 0 m (upd H D (.lst []))) ∧ ∀ i m H, W i m H → LcTurn D J g tt te (wipe σ (own.map (·.2))) (own.map (·.2)) W Q i m H)
    {s3 : Shared} (h3 : s3 = { s with heap := s.heap.push { cls := .type "list", data := .seq ([] : List Value).toArray } }) :
    codeAny (model X.prog X.w) X.A (.compStart (.ListComp elt [⟨tg, iter, ifs, 0⟩] scope pos) 0 (.ref it) (.ref s.heap.objs.size) (compEnvC scope (cellsFrom (s3.heap.objs.size + 1) scope.names (cloFrom X.env.cells scope.names [])) s3.heap.objs.size X.env))
      (compPost (model X.prog X.w) X.A X.xe none (EP X pins σ Q) (.ref s.heap.objs.size) s3.heap.objs.size) { s3 with heap := pushCells (s3.heap.push { cls := .type "dict", data := .dict #[] }) scope.names } := by
  have hD : H s.heap.objs.size = none := I.hok.fresh (Nat.le_refl _)
  obtain ⟨W, ⟨m0, w0⟩, turn⟩ := q _ hD
  have e3 : s3.heap = s.heap.push { cls := .type "list", data := .seq ([] : List Value).toArray } := by rw [h3]
  have I3 : Inv X pins σ (upd H s.heap.objs.size (.lst [])) s3 := by
    rw [h3]
    exact I.laid (t' := s.toks) (fun b o e => Heap.get?_push_of_some _ e) (Nat.le_refl _) ⟨Nat.zero_le _, [], 0, .nil, Heap.get?_push_size _ rfl⟩
  have lt : ∀ b ∈ fp, b < s.heap.objs.size := fun b hb => (T.obj _ _ st b hb).elim fun o ho => Heap.lt_size ho.1
  have f3 : ∀ b ∈ fp, FpOk X pins (upd H s.heap.objs.size (.lst [])) b ∧ b < s3.heap.objs.size := fun b hb =>
    ⟨⟨by rw [upd_ne (Nat.ne_of_lt (lt b hb))]; exact (hf b hb).1, (hf b hb).2⟩, by rw [e3, Heap.size_push]; exact Nat.lt_succ_of_lt (lt b hb)⟩
  have ne : ∀ b ∈ fp, p.1 ≠ b := fun b hb => (hf b hb).2.2.2.2.2 p (List.mem_append_left _ hp)
  have st3 : tn 0 s3.heap := T.keep _ _ _ st fun b _ o e => by rw [e3]; exact Heap.get?_push_of_some _ e
  have I4 := hb_start I3 hp ok hN f3
  have st4 : tn 0 (pushCells (s3.heap.push { cls := .type "dict", data := .dict #[] }) scope.names) := T.keep _ _ _ st3 fun b _ o e => pushCells_keeps _ _ _ _ (Heap.get?_push_of_some _ e)
  have pg := hg s3 (upd H s.heap.objs.size (.lst [])) s3.heap.objs.size (cellsFrom (s3.heap.objs.size + 1) scope.names (cloFrom X.env.cells scope.names [])) fp
  have pt := ht s3 (upd H s.heap.objs.size (.lst [])) s3.heap.objs.size (cellsFrom (s3.heap.objs.size + 1) scope.names (cloFrom X.env.cells scope.names [])) fp
  have pe := he s3 (upd H s.heap.objs.size (.lst [])) s3.heap.objs.size (cellsFrom (s3.heap.objs.size + 1) scope.names (cloFrom X.env.cells scope.names [])) fp
  have loc : (compEnvC scope (cellsFrom (s3.heap.objs.size + 1) scope.names (cloFrom X.env.cells scope.names [])) s3.heap.objs.size X.env).locals = s3.heap.objs.size := rfl
  revert I4 pg pt pe loc
  generalize compEnvC scope (cellsFrom (s3.heap.objs.size + 1) scope.names (cloFrom X.env.cells scope.names [])) s3.heap.objs.size X.env = ce
  intro I4 pg pt pe loc
  have leave : ∀ (s' : Shared) (H' : Hp), Inv (HB X p s3 (upd H s.heap.objs.size (.lst [])) scope ce fp) [] (wipe σ (own.map (·.2))) H' s' → Q (.ref s.heap.objs.size) H' → compPost (model X.prog X.w) X.A X.xe none (EP X pins σ Q) (.ref s.heap.objs.size) s3.heap.objs.size (.ok .next) s' := fun s' H' I6 qq => by
    have I7 : Inv X pins σ H' s' := I3.call' (ch := fp) I6.os I6.base I6.hok I6.bare fun b hb => ⟨(hf b hb).2.2.2.1, (hf b hb).2.1, (hf b hb).2.2.2.2.1, (hf b hb).2.2.2.2.2⟩
    have nC : H' s3.heap.objs.size = none := by
      rw [← loc]
      exact I6.free
    obtain ⟨m, hn, _⟩ := I6.loc
    have hn : s'.heap.Ns ce.locals m := hn
    rw [loc] at hn
    obtain ⟨f0, f1, f2, f4, f5, f6⟩ := I3.fpOk (H' := H') (Nat.le_refl _) nC
    exact ⟨m, hn, fun h' sb => ⟨.ref s.heap.objs.size, H', I7.turned (t' := s'.toks) (fun b o hb e => (sb.2 b hb).trans e) f0 f1 f4 f5 f6, rfl, qq⟩⟩
  have loop : codeAny (model X.prog X.w) X.A (.compLoop (.ListComp elt [⟨tg, iter, ifs, 0⟩] scope pos) 0 (.ref it) (.ref s.heap.objs.size) ce) (compPost (model X.prog X.w) X.A X.xe none (EP X pins σ Q) (.ref s.heap.objs.size) s3.heap.objs.size) { s3 with heap := pushCells (s3.heap.push { cls := .type "dict", data := .dict #[] }) scope.names } := by
    refine compLoop_any (LcAt (HB X p s3 (upd H s.heap.objs.size (.lst [])) scope ce fp) fp tn W (wipe σ (own.map (·.2)))) (fun n s5 ⟨i, H5, I5, st5, n5, w5⟩ => ?_) m0 ⟨0, _, I4, st4, fun b hb => (f3 b hb).1.1, w0⟩
    exact lc_turn (Y := HB X p s3 (upd H s.heap.objs.size (.lst [])) scope ce fp) T (hb_hot hot) pg pt pe rfl (fun I' hn => hb_fp ne I' hn) I5 st5 n5 (turn i n H5 w5) (fun s' I' qq => leave s' H5 I' qq)
  exact codeAny_compStart_list loop (T.self X.A 0 _ _ _ st4 loop)
theorem pe_lcH (hot : Hot1 X.A p) (hp : p ∈ X.pn) (hN : X.N.Nodup) (hi : PIH X tg iter wi) (ok : BlkOk X.N X.env.scope scope own)
    (hg : ∀ (s : Shared) (H : Hp) (C : Addr) (cl : List (Str × Addr)) (fp : List Addr), PG (HB X p s H scope (compEnvC scope cl C X.env) fp) tg g)
    (ht : ∀ (s : Shared) (H : Hp) (C : Addr) (cl : List (Str × Addr)) (fp : List Addr), PTs (HB X p s H scope (compEnvC scope cl C X.env) fp) ifs tt)
    (he : ∀ (s : Shared) (H : Hp) (C : Addr) (cl : List (Str × Addr)) (fp : List Addr), PE (HB X p s H scope (compEnvC scope cl C X.env) fp) elt te) (hs : ∀ x, foldedSetIterable iter X.env x = pure x) :
    PE X (.ListComp elt [⟨tg, iter, ifs, 0⟩] scope pos) (tLc wi g tt te (own.map (·.2))) := ⟨fun pins s σ H Q I h => by
  rw [eval_ListComp]
  have clo := closure_ok (scope := scope) (env := X.env) fun y hy e => (ok.free y hy e).elim (fun k => I.ok.has _ (.inl k)) fun k => I.ok.has _ (.inr k)
  refine wpAny_comprehension_free (use := none) rfl hs clo ok.kind (fun y hy e => by rw [ok.uniq y hy, e]) (thn (hi.run pins s σ H _ I h) fun xv s1 hx => thn hx fun itv s2 h2 => ?_)
  obtain ⟨it, fp, tn, J, H2, rfl, I2, T, st2, f2, q⟩ := h2
  refine wpAny_newObj_type (newEnv_comp ?_) (by show 0 ≤ sizeLine; decide)
  refine block_run hot hp hN ok hg ht he I2 T st2 f2 (fun D hD => ?_) rfl
  obtain ⟨W, w0, turn⟩ := q D hD
  refine ⟨W, w0, fun i m H w => (turn i m H w).imp id fun ⟨go, Nx, h1, h2⟩ => ⟨go, Nx, h1, fun x H' y => ?_⟩⟩
  exact h2 x H' y⟩
end
end CF
/-! CFHot2 -/
set_option maxHeartbeats 1000000
/-! all(xs) where an exception is handled. -/
namespace CF
open PySem PySem.Spec PyProof.Rows L2 L2H HotX
section
variable {prog : Program} {w : World} {A : Around} {E : Value → Shared → Prop} {s : Shared}
/-- a StopIteration is raised where x is handled: the heap grows, and a new object is its own -/
theorem stop_hot {α : Type} {x1 : Addr} {Q : α → Shared → Prop} (hot : HotAt A x1 s.heap) (hE : ∀ a h', (∀ b o, s.heap.get? b = some o → h'.get? b = some o) → (∃ o, h'.get? a = some o ∧ o.cls = .type "StopIteration") → E (.ref a) { s with heap := h' }) :
    wpAny (model prog w) A (Builtin.SmallTypes.stopIteration : Sem α) Q E s := by
  obtain ⟨hh, o, vs, g, d, c⟩ := hot
  have far : ∀ {h : Heap} {b : Addr} {u : Obj}, h.get? b = some u → b ≠ h.objs.size := fun e => Nat.ne_of_lt (Heap.lt_size e)
  unfold Builtin.SmallTypes.stopIteration newExc newTuple
  wp_walk
  refine raiseNew_hot (x1 := x1) ⟨hh, o, vs, by heap_get, d, c⟩ (far (u := o) (by heap_get)) (Heap.get?_push_size _ ?free) (by rfl) ?size (hE _ _ (fun b u e => ?keep) ⟨_, Heap.get?_update_self _ (Heap.get?_push_size _ ?free2) ?free3, ?cls⟩)
  case keep =>
    rw [Heap.get?_update_other _ _ (Ne.symm (far (u := u) (by heap_get)))]
    heap_get
  case size =>
    rw [Array.size_append]
    exact Nat.lt_add_right _ (show 2 < 6 by decide)
  all_goals rfl
/-- a list's iterator at its end, an exception being handled -/
theorem list_end_hot {it l x1 : Addr} {i : Nat} {items : Array Value} {Q : Option Value → Shared → Prop} (hot : HotAt A x1 s.heap) (ne : it ≠ x1) (hit : s.heap.IsListIter it l i) (hl : s.heap.IsList l items) (hx : items[i]? = none)
    (hQ : ∀ h', (∀ b o, b ≠ it → s.heap.get? b = some o → h'.get? b = some o) → Q none { s with heap := h' }) : wpAny (model prog w) A (pyNext (.ref it)) Q E s := by
  obtain ⟨hh, o, vs, g, d, c⟩ := hot
  have ti := hit.typeIs
  obtain ⟨⟨ci, ui, di, si⟩, gi, hci, hdi⟩ := hit
  obtain ⟨⟨cl, ul, dl, sl⟩, gl, hcl, nl, hdl⟩ := hl
  cases hdi
  cases hdl
  have enter : ∀ {R : Value → Shared → Prop} {R' : Value → Shared → Prop}, wpAny (model prog w) A.in1 (Builtin.«list_iterator.__next__» ⟨[.ref it], []⟩) (fun f s' => ∃ v, f = .done (.ret v) ∧ R v s') R' s → wpAny (model prog w) A (call (.builtin "list_iterator.__next__") [.ref it]) R R' s :=
    fun k => wpAny_call_entry slot_listiter_next ti entry_listiter_next k (args_listiter_next _)
  unfold pyNext
  wp_walk using (wpAny_callSpecial?_slot ti slot_listiter_next), enter
  rw [show items[(i : Int).toNat]? = none from hx]
  have there : (s.heap.update it (Obj.mapFields (·.setIfInBounds 0 .none))).get? x1 = some o := (Heap.get?_update_other _ _ ne).trans g
  wp_walk using (stop_hot (x1 := x1))
  · exact ⟨hh, o, vs, there, d, c⟩
  · intro a h' grow ⟨ob, ga, ca⟩
    refine wpAny_bind (wpAny_isInstance (T := "StopIteration") (b := true) ⟨ob, ga, ca⟩ isSubtype_stop (wpAny_pure (hQ h' fun b u nb e => ?_)))
    exact grow b u ((Heap.get?_update_other _ _ (Ne.symm nb)).trans e)
/-- the walk over a list -/
theorem walks_hot {I l x1 : Addr} {items : Array Value} (hh : A.handled = some (.ref x1)) (n1 : l ≠ I) (n2 : I ≠ x1) :
    Walks prog w A I [I, l, x1] [I] items.size (fun i v => items[i]? = some v) (fun i h => (h.IsListIter I l i ∧ h.IsList l items) ∧ ∃ (o : Obj) (vs : Array Value), h.get? x1 = some o ∧ o.data = .fields vs ∧ vs[2]? = some .none) where
  sub := fun b hb => by
    rw [List.mem_singleton.mp hb]
    exact List.mem_cons_self ..
  frame := fun i h h' ⟨⟨a, b⟩, o, vs, c, d⟩ k => ⟨⟨a.at fun o e => k I (by simp) o e, b.at fun o e => k l (by simp) o e⟩, o, vs, k x1 (by simp) o c, d⟩
  item := fun i s Q E hi ⟨⟨a, b⟩, o, vs, c, d⟩ hQ => wpAny_pyNext_list_item a b (x := items[i]) (by simp [hi]) fun h' hit sb =>
    hQ _ h' s.toks (by simp [hi]) ⟨⟨hit, b.extBut sb.extBut n1⟩, o, vs, sb.extBut x1 o (Ne.symm n2) c, d⟩ fun b o hb e => sb.extBut b o (fun z => hb (by rw [z]; exact List.mem_singleton.mpr rfl)) e
  done := fun s Q E ⟨⟨a, b⟩, o, vs, c, d⟩ hQ => list_end_hot ⟨hh, o, vs, c, d⟩ n2 a b (by simp) fun h' k => hQ h' s.toks fun b o hb e => k b o (fun z => hb (by rw [z]; exact List.mem_singleton.mpr rfl)) e
  self := fun i s Q E ⟨⟨a, b⟩, _⟩ hQ => wpAny_pyIter_listiter a hQ
/-- all(l), l a list of bools -/
theorem all_hot {l x1 : Addr} {its : List Value} {bs : List Bool} {Q : Value → Shared → Prop} (hot : HotAt A x1 s.heap) (hl : s.heap.IsList l its.toArray) (hb : its = bs.map Value.bool)
    (k : ∀ h' tk, (∀ b o, s.heap.get? b = some o → h'.get? b = some o) → Q (.bool (bs.all id)) { s with heap := h', toks := tk }) : wpAny (model prog w) A (call (.builtin "all") [.ref l]) Q E s := by
  obtain ⟨hh, ox, vx, gx, dx, cx⟩ := hot
  have turns : its.toArray.size = bs.length := by rw [List.size_toArray, hb, List.length_map]
  apply call_all_walk
  apply iter_any hl
  rintro _ rfl st ne
  have old : ∀ b o, s.heap.get? b = some o → b ∉ [s.heap.objs.size] := fun b o e m => Nat.ne_of_lt (Heap.lt_size e) (List.mem_singleton.mp m)
  have W := walks_hot (prog := prog) (w := w) (A := A.in1) (items := its.toArray) (show A.in1.handled = some (.ref x1) from hh) ne (Ne.symm (Nat.ne_of_lt (Heap.lt_size gx)))
  refine ⟨s.heap.objs.size, _, _, its.toArray.size, _, _, _, rfl, W, ⟨st, ox, vx, by heap_get, dx, cx⟩, truth_bools hb, fun h' tk keep => ?_⟩
  rw [turns, L2.all_range]
  exact k h' tk fun b o e => keep b o (old b o e) (by heap_get)
end
theorem cr_allH {X : Cx} (hc : HotC X) : CallR X (.builtin "all") (rAll X.K) := fun pins s σ H vs us Q I r ⟨l, bs, ev, sq, q⟩ => by
  subst ev
  obtain ⟨x1, hot⟩ := hc.at I
  obtain ⟨its, rv, hl, _⟩ := I.list sq
  obtain rfl := Vals.ref1 r
  exact all_hot hot hl.isList rv.bls fun h' tk keep => ⟨.bl _, H, I.kept keep, rfl, q⟩
end CF
/-! CFHot3 -/
set_option maxHeartbeats 1000000
/-! The handled exception: isinstance, its fields. -/
namespace CF
open PySem PySem.Spec PyProof.Rows L2
section
variable {X : Cx} {a D : Addr} {oe : Obj} {d : Option Addr}
/-- its object, with its dict's -/
theorem inst_at {pins : List (Addr × Obj)} {σ : L2.St} {H : Hp} {s : Shared} (hp : (a, oe) ∈ X.pn) (hz : Zc (.ref D) d oe) (hf : ∃ vs, oe.data = .fields vs) (I : Inv X pins σ H s) (hd : d = none ∨ ∃ dd fs, d = some dd ∧ H dd = some (.xd fs)) :
    ∃ od, PySem.W.InstAt s.heap a oe D od := by
  obtain ⟨ha, _⟩ := I.pin (a, oe) (List.mem_append_left _ hp)
  obtain ⟨vs, hv⟩ := hf
  have nc : PySem.W.notCls oe = true := by unfold PySem.W.notCls; rw [hv] <;> rfl
  rcases hd with rfl | ⟨dd, fs, rfl, e⟩
  · exact ⟨none, ha, hz.1, nc, by rw [hz.2]; trivial⟩
  · have hx : ObjOk X.prog X.w H s.heap dd (.xd fs) := I.hok dd _ e
    obtain ⟨mA, hns, hr⟩ := hx
    obtain ⟨od, ho, _⟩ := lookIn_ns hns
    exact ⟨some od, ha, hz.1, nc, by rw [hz.2]; exact ho⟩
def rIsP (K : PySem.W.Frag) (D a : Addr) (d : Option Addr) : List V → Hp → VK → Prop := fun xs H Q => (d = none ∨ ∃ dd fs, d = some dd ∧ H dd = some (.xd fs)) ∧ ∃ (c : V) (cv : Value) (b : Bool), xs = [.ref a, c] ∧ (∀ u, RelV c u → u = cv) ∧ PySem.W.kitOne K (.ref D) cv = some b ∧ Q (.bl b) H
/-- isinstance(e, c) -/
theorem call_isP (hp : (a, oe) ∈ X.pn) (C : ExcC X.K D) (hz : Zc (.ref D) d oe) (hf : ∃ vs, oe.data = .fields vs) : CallR X (.builtin "isinstance") (rIsP X.K D a d) := by
  intro pins s σ H xs us Q I r ⟨hd, c, cv, b, ex, hcv, e, q⟩
  subst ex
  obtain ⟨od, J⟩ := inst_at hp hz hf I hd
  match us, r with
  | [_, uc], .cons rx (.cons rt .nil) =>
    cases rx
    obtain rfl := hcv _ rt
    have hcl : (PySem.W.clsIn X.K D).isSome = true := by
      obtain ⟨cd, hc, _⟩ := PySem.W.any_some C.hd
      rw [hc]
      rfl
    exact PySem.W.kia_one (PySem.W.kitx_exc hcl C.hg C.hk C.hs C.ha C.hn C.ht C.hm) I.kIn J e (fun z => nomatch z) fun tk => ⟨.bl b, H, I.kept (t' := tk) fun _ _ z => z, rfl, q⟩
/-- e.f -/
theorem pe_xfP {n : Str} {e : Expr} {te : TE} {pos : Pos} {cls : Value} (hp : (a, oe) ∈ X.pn) (T : XfC X.K D) (hno : PySem.W.findIn X.K (.ref D) n = some none) (hz : Zc cls d oe) (hf : ∃ vs, oe.data = .fields vs) (he : PE X e te) (hb : attributeBase e n X.env (eval e X.env) = eval e X.env) :
    PE X (.Attribute e n pos) (tXf a cls d D n te) := ⟨fun pins s σ H Q I h => by
  refine attr_of hb (thn (he.run pins s σ H _ I h) fun u s1 ⟨x, H1, I1, rx, ex, ec, dd, fs, v, ed, ea, l, q⟩ => ?_)
  subst ex ec ed
  cases (show u = Value.ref a from rx)
  obtain ⟨ha, _⟩ := I1.pin (a, oe) (List.mem_append_left _ hp)
  obtain ⟨vs, hv⟩ := hf
  have hx : ObjOk X.prog X.w H1 s1.heap dd (.xd fs) := I1.hok dd _ ea
  obtain ⟨mA, hns, hr⟩ := hx
  obtain ⟨od, ho, hl⟩ := lookIn_ns hns
  obtain ⟨u, hu, ru⟩ := RelO.some_of (v := v) (o := mA n) (by rw [← l]; exact hr n)
  have J : PySem.W.InstAt s1.heap a oe D (some od) := ⟨ha, hz.1, by unfold PySem.W.notCls; rw [hv] <;> rfl, by rw [hz.2]; exact ho⟩
  exact HandSPX.exc_get I1.kIn J T.ga T.gg T.exC (PySem.W.findObj_own T.hdC hno rfl (by rw [hl, hu])) (handed_of ru) ⟨v, H1, I1.tok _, ru, q⟩⟩
end
end CF
/-! CFHot4 -/
set_option maxHeartbeats 1000000
/-! Functions that are handed the handled exception. -/
namespace CF
open PySem PySem.Spec PyProof.Rows L2 L2H HotX
/-- a function's promise, p being handled -/
structure FnP (P : Program) (w : World) (K : PySem.W.Frag) (mg : Str → Option Value) (base : Heap) (Cc : CXT) (k : Nat) (f : Addr) (fd : FuncData) (ps : List Str) (sp : Addr × Obj → Sp) : Prop where
  len : ∀ p vs H Q E, sp p vs H Q E → vs.length = ps.length
  run : ∀ (p : Addr × Obj) (A : Around) (outer : List PySem.Env) (s : Shared) (H : Hp) (args : Args) (us : List Value) (vs : List V) (Q : VK) (E : XK), RoomH k A → Hot1 A p → PinOk outer H s p → Env0 P w K mg base A outer s H → BindsTo s fd args (ps.zip us) → Vals vs us → sp p vs H Q E →
    codeAny (model P w) A (.call (.ref f) args) (CR Cc outer P w H s Q E) s
section
variable {P : Program} {w : World} {K : PySem.W.Frag} {mg : Str → Option Value} {base : Heap} {Cc : CXT} {k : Nat} {f : Addr} {fd : FuncData} {N ps : List Str} {sp : Addr × Obj → Sp}
theorem fnP_of {x qual : Str} {st : Stmt} (F : Fun K x qual st f fd) (S : FnScope N ps (defScope st)) (hl : ∀ p vs H Q E, sp p vs H Q E → vs.length = ps.length)
    (hb : ∀ (p : Addr × Obj) (cdv : Value) (A : Around) (outer : List PySem.Env) (s : Shared) (H : Hp) (vs : List V) (Q : VK) (E : XK), Hot1 A p → RoomH k (A.deeper (envOfC qual (defScope st) s.heap.objs.size f cdv)) → sp p vs H Q E →
      ∃ t, PSs (cxH Cc P w K mg base N qual (defScope st) f cdv A outer s H E p) (defBody st) t ∧ t { nx := fun _ H' => Q .non H', rt := Q } (start N vs) H) : FnP P w K mg base Cc (k + 1) f fd ps sp := by
  obtain ⟨oc, od, kV, doc, pm, an, cdv, ct, osl, rfl, lk, hcd⟩ := F.ex
  refine ⟨hl, fun p A outer s H args us vs Q E hr hot hpin e0 hbd r hsp => ?_⟩
  have KX : K.In s.heap := e0.mod.kin.keeps fun b o e => (e0.bs b o e).1
  refine codeAny_call_function hr.depth (KX _ _ lk) rfl S.co S.gen rfl (PySem.W.codeRec_of KX hcd) (hbd _ _ _ _ (wpAny_newFunctionEnv_cells S.kind (fun y hy => ?_) fun env he s1 x => ?_))
  · have hm : y.1 ∈ ps := (List.of_mem_zip (show (y.1, y.2) ∈ ps.zip us from hy)).1
    exact (S.par y.1 hm).imp id fun q => ⟨q, PySem.W.cellsFrom_some _ _ _ (.inl q)⟩
  · subst he
    obtain ⟨t, ht, q⟩ := hb p cdv A outer s H vs Q E hot (hr.deeper _) hsp
    have nl : s.heap.NoLimit := e0.mod.nolimit.keeps fun b o e => (e0.bs b o e).1
    have go := ht.run [] s1 (L2.start N vs) H _ (inv_startH S hpin e0 (hl _ _ _ _ _ hsp) r x) q
    refine ⟨nl.keeps x.toInCall.keep, codeAny_func (wpAny_mono go (fun fl s' hs => ?_) fun _ _ z => z)⟩
    match fl, hs with
    | .ret u, ⟨v, _, H', J, rv, q⟩ => exact ⟨v, H', J.os, J.bare, J.base, J.hok, rv, q⟩
    | .next, ⟨_, H', J, q⟩ => exact ⟨V.non, H', J.os, J.bare, J.base, J.hok, rfl, q⟩
    | .brk, ⟨_, _, _, z⟩ => exact z.elim
    | .cont, ⟨_, _, _, z⟩ => exact z.elim
end
section
variable {X : Cx} {Cc : CXT} {p : Addr × Obj} {k : Nat} {f : Addr} {fd : FuncData} {ps : List Str} {sp : Addr × Obj → Sp} {E : L2.St → XK} {x : Str} {q pos : Pos} {e : Expr} {es : List Expr} {t : TA}
theorem pin_ok {pins : List (Addr × Obj)} {σ : L2.St} {H : Hp} {s : Shared} (I : Inv X pins σ H s) (hp : p ∈ X.pn) : PinOk X.stack H s p := by
  obtain ⟨g1, g2, g3, g4, g5⟩ := I.pin p (List.mem_append_left _ hp)
  exact ⟨g1, g2, fun hm => (List.mem_cons.mp (I.stkSub p.1 hm)).elim g3 g4, g5⟩
/-- f(..) where p is handled -/
theorem pe_callP (F : FnP X.prog X.w X.K X.mg X.base Cc k f fd ps sp) (hr : RoomH k X.A) (hot : Hot1 X.A p) (hp : p ∈ X.pn) (hg : Gl X x) (hm : X.mg x = some (.ref f)) (hk : PySem.W.keepIn X.K (.ref f) = true) (hb : Binds X.K fd ps []) (hx : ∀ σ, PassesAt Cc X σ (E σ))
    (ha : PA X (e :: es) t) (hdb : (x == ("__debug__" : Str)) = false) (he : starEach (e :: es) X.env = (false, eval e X.env) :: starEach es X.env) (hpl : (backTo pos (starEach es X.env)).any (·.1) = false) :
    PE X (.Call (.Name x q) (e :: es) [] pos) (tCallS (sp p) E t) := ⟨fun pins s σ H Q I h => by
  refine wpAny_Call_Name_kw (ld_glob I hg hm (PySem.W.callWith_K (h₀ := X.base) I.ok.mod.kin hk (thn (ha.run pos pins s σ H _ I h) fun us s1 ⟨vs, H1, I1, r, z⟩ => ⟨I1.kIn, ?_⟩) he hpl) hdb)
  have n1 : (us ++ []).length = ps.length := by
    rw [List.append_nil, ← r.length]
    exact F.len _ _ _ _ _ z
  have b := hb s1 us I1.kIn n1
  rw [List.append_nil] at b
  refine wpAny_call (codeAny_mono (F.run p X.A X.stack s1 H1 ⟨us, []⟩ us vs Q (E σ) hr hot (pin_ok I1 hp) I1.env0 b r z) fun rr s' hq => ?_)
  match rr, hq with
  | .error er, hq => exact hx σ pins H1 s1 er s' I1 hq
  | .ok (.ret u), hq => exact I1.after hq
  | .ok .next, hq => exact hq.elim
  | .ok .brk, hq => exact hq.elim
  | .ok .cont, hq => exact hq.elim⟩
end
end CF
/-! CFHot5 -/
set_option maxHeartbeats 1000000
/-! Expressions of the small language where an exception is handled. -/
namespace CF
open PySem PySem.Spec L2 L2H
/-- a function's promise here: no exception leaves it -/
def spH (W : Wld) (n : Nat) (f : Nat) : Sp := fun vs H Q _ => sp W n f vs H Q (fun _ _ _ => False)
/-- a context where p is handled -/
structure CtxH (X : Cx) (W : Wld) (n : Nat) (p : Addr × Obj) (hf : Nat → Bool) (N : List Str) (sc : Scope) (own : Option Scope) : Prop where
  xw : XW X W
  wok : WOk W
  nd : X.N.Nodup
  hot : Hot1 X.A p
  hp : p ∈ X.pn
  room : RoomH (n + 1) X.A
  hN : X.N = N
  hsc : X.env.scope = sc
  kind : sc.kind = .function
  fn : ∀ x, cellB own x = true → X.fn x = true
  fns : ∀ f, hf f = true → FnH X.prog X.w X.K X.mg X.base (L2N.CX X.prog X.w) (n + 1) (W.ad f) (W.fd f) (W.ps f) (spH W n f) ∧ Binds X.K (W.fd f) (W.ps f) []
  noE : ∀ c, W.T.eqm c = none
  noL : ∀ c, W.T.lenm c = none
section
variable {X : Cx} {W : Wld} {n : Nat} {p : Addr × Obj} {hf : Nat → Bool} {N : List Str} {sc : Scope} {own : Option Scope}
theorem CtxH.hc (k : CtxH X W n p hf N sc own) : HotC X := ⟨p, k.hot, k.hp⟩
/-- the block of a comprehension -/
theorem CtxH.blk (k : CtxH X W n p hf N sc own) {scope : Scope} (hk : (relS scope sc).kind = .function) (s : Shared) (H : Hp) (C : Addr) (cl : List (Str × Addr)) (fp : List Addr) : CtxH (HB X p s H scope (compEnvC scope cl C X.env) fp) W n p hf N (relS scope sc) (some scope) where
  xw := ⟨k.xw.P, k.xw.w, k.xw.K, k.xw.mg, k.xw.room, k.xw.ok⟩
  wok := k.wok
  nd := k.nd
  hot := k.hot
  hp := List.mem_singleton.mpr rfl
  room := k.room
  hN := k.hN
  hsc := by rw [← k.hsc]; rfl
  kind := hk
  fn := fun x h => h
  fns := k.fns
  noE := k.noE
  noL := k.noL
theorem glH (k : CtxH X W n p hf N sc own) {x : Str} (h : glB sc x = true) : Gl X x := by
  show X.env.scope.names.lookup x = _
  rw [k.hsc]
  simpa only [glB, beq_iff_eq] using h
theorem slotH (k : CtxH X W n p hf N sc own) {x : Str} {i : Nat} (h : slotB N i x = true) : X.N[i]? = some x := by
  rw [k.hN]
  simpa only [slotB, beq_iff_eq] using h
theorem visH (k : CtxH X W n p hf N sc own) {x : Str} (h : visB sc x = true) : Vis X.env.scope x := by
  rw [k.hsc]
  simp only [visB, Bool.or_eq_true, beq_iff_eq] at h
  rcases h with (h | h) | h
  · exact .inl h
  · exact .inr (.inl h)
  · exact .inr (.inr h)
theorem locH (k : CtxH X W n p hf N sc own) {x : Str} (h : locB sc x = true) : Loc X.env.scope x := by
  rw [k.hsc]
  simp only [locB, Bool.or_eq_true, beq_iff_eq] at h
  exact h
theorem stoH (k : CtxH X W n p hf N sc own) {x : Str} (h : stoB sc own x = true) : X.fn x = true ∨ X.env.scope.names.lookup x = some .local := by
  rw [k.hsc]
  simp only [stoB, Bool.or_eq_true] at h
  rcases h with h | h
  · exact .inl (k.fn x h)
  · exact .inr (by simpa using h)
end
mutual
/-- what is served here -/
def hotE (hf : Nat → Bool) : E → Bool
  | .var _ => true
  | .cst _ => true
  | .nt a => hotE hf a
  | .and a b => hotE hf a && hotE hf b
  | .cmp _ a b => hotE hf a && hotE hf b
  | .isi o t => hotE hf o && (match t with | .own _ => false | _ => true)
  | .ite c a b => (match c with | .cmp _ _ _ => true | _ => false) && hotE hf c && hotE hf a && hotE hf b
  | .sub o i => hotE hf o && hotE hf i
  | .prm p es => (p == .len || p == .all) && hotAs hf es
  | .call f es => hf f && hotAs hf es
  | .fr f => hotF hf f
  | _ => false
def hotAs (hf : Nat → Bool) : As → Bool
  | .nil => true
  | .cons e es => hotE hf e && hotAs hf es
  | .star _ _ => false
def hotF (hf : Nat → Bool) : F → Bool
  | .cp p it c e => (match p with | .nm _ => true | _ => false) && (match c with | .no => true | _ => false) && hotI hf it && hotE hf e
  | _ => false
def hotI (hf : Nat → Bool) : I → Bool
  | .rg es => hotAs hf es && (match es with | .cons _ .nil => true | _ => false)
  | _ => false
end
section
variable {M : Nms} {W : Wld} {n : Nat} {N : List Str} {hf : Nat → Bool}
def HokE (M : Nms) (W : Wld) (n : Nat) (hf : Nat → Bool) (N : List Str) (e : E) : Prop := hotE hf e = true → ∀ (X : Cx) (p : Addr × Obj) (sc : Scope) (own : Option Scope), CtxH X W n p hf N sc own → ∀ x, chkE M N e sc own x = true → ∀ g0 H0, PE X x (tM W g0 H0 WF0 (ev W.T (callN W.T n) e))
def HokAs (M : Nms) (W : Wld) (n : Nat) (hf : Nat → Bool) (N : List Str) (es : As) : Prop := hotAs hf es = true → ∀ (X : Cx) (p : Addr × Obj) (sc : Scope) (own : Option Scope), CtxH X W n p hf N sc own → ∀ l, chkAs M N es sc own l = true → ∀ g0 H0,
  PA X l (tMA W g0 H0 WF0 (evs W.T (callN W.T n) es)) ∧ PA X l (tMAT W g0 H0 WF0 (evTs W.T (callN W.T n) es))
def HokF (M : Nms) (W : Wld) (n : Nat) (hf : Nat → Bool) (N : List Str) (f : F) : Prop := hotF hf f = true → ∀ (X : Cx) (p : Addr × Obj) (sc : Scope) (own : Option Scope), CtxH X W n p hf N sc own → ∀ x, chkF M N f sc own x = true → ∀ g0 H0, PE X x (tMF W g0 H0 WF0 (evF W.T (callN W.T n) f))
def HokI (M : Nms) (W : Wld) (n : Nat) (hf : Nat → Bool) (N : List Str) (it : I) : Prop := hotI hf it = true → ∀ (X : Cx) (p : Addr × Obj) (sc : Scope) (own : Option Scope), CtxH X W n p hf N sc own → ∀ x, chkI M N it sc own x = true → ∀ tg g0 H0,
  ∃ wi, PIH X tg x wi ∧ ∀ σ H R, tI W g0 H0 WF0 false (evI W.T (callN W.T n) it) σ H R → wi σ H R
section
variable {X : Cx} {p : Addr × Obj} {sc : Scope} {own : Option Scope} {g0 : Gh} {H0 : Hp}
theorem look_ofH (k : CtxH X W n p hf N sc own) : ∀ {e : E} {x : Expr}, chkE M N e sc own x = true → PE X x (tM W g0 H0 WF0 (ev W.T (callN W.T n) e)) → PE X x (tMT W g0 H0 WF0 (evT W.T (callN W.T n) e)) := by
  intro e x h q
  cases e with
  | var i =>
    simp only [chkE] at h
    split at h
    · simp only [Bool.and_eq_true] at h
      exact cf_varT (slotH k h.1.1) (visH k h.1.2) (nm_of h.2).1 (nm_of h.2).2
    · cases h
  | _ =>
    refine pe_look ?_
    refine (congrArg (fun m => PE X x (tM W g0 H0 WF0 m)) ?_).mp q
    funext env s
    simp only [evT]
theorem const_okH (mk : NmsOk2 M W) (k : CtxH X W n p hf N sc own) {d : D} {x : Expr} (h : constB M sc d x = true) : PE X x (tM W g0 H0 WF0 (ev W.T (callN W.T n) (.cst d))) := by
  unfold constB at h
  split at h
  · rw [eqC_eq h]; exact cf_const pe_non fun _ _ => trivial
  · rw [eqC_eq h]; exact cf_const pe_bl fun _ _ => rfl
  · rw [eqC_eq h]; exact cf_const pe_int fun _ _ => rfl
  · simp only [Bool.and_eq_true] at h
    rw [eqC_eq h.1]
    exact cf_const pe_str fun _ _ => ⟨(toS_cps _).symm, okCps_ok h.2⟩
  · simp only [Bool.and_eq_true] at h
    obtain ⟨h1, h2⟩ := h
    split at h2
    · rename_i d' hd
      rw [eqC_eq h2]
      obtain ⟨v, u, e1, e2, e3, e4⟩ := k.wok.gc _ d' (by rw [mk.gc]; exact hd)
      exact cf_const (pe_glob (glH k h1) (by rw [k.xw.mg]; exact e1) e2 e3) e4
    · cases h2
  · cases h
/-- without own methods for == -/
theorem cmp_sub (hE : ∀ c, W.T.eqm c = none) {C : CallF} {a b : E} {op : Cm} (env : Env) (s : Sto) :
    ev W.T C (.cmp op a b) env s = ((evT W.T C a env s).bind fun x s => (evT W.T C b env s).bind fun y s => (match refE s op x y with | some r => .ok (.bl r) s | none => (R.of (opCmp s op x y) s).bind fun b s => .ok (.bl b) s)) ∨ ev W.T C (.cmp op a b) env s = .bad := by
  simp only [ev]
  refine bind_sub _ fun x s => bind_sub _ fun y s => ?_
  unfold cmpR
  split
  · refine .inr ?_
    unfold eqO
    split
    · split
      · split
        · rw [hE]
        · rfl
      · rfl
    · split
      · rw [hE]
      · rfl
    · rfl
  · exact .inl rfl
theorem cf_cmpH (k : CtxH X W n p hf N sc own) {ea eb : Expr} {a b : E} {pos : Pos} (op : Cm) (hm : behindInMarks (opC op) eb = false) (ha : PE X ea (tMT W g0 H0 WF0 (evT W.T (callN W.T n) a))) (hb : PE X eb (tMT W g0 H0 WF0 (evT W.T (callN W.T n) b))) :
    PE X (.Compare ea [opC op] [eb] pos) (tM W g0 H0 WF0 (ev W.T (callN W.T n) (.cmp op a b))) :=
  (pe_cmpR (op_cmpR (W := W) (g0 := g0) (H0 := H0) (Wx := WF0) k.xw op) ha hb hm).imp' fun σ H Q h => by
    obtain ⟨env, st, g, si, af⟩ := tM_sub (fun env s => cmp_sub k.noE env s) h
    exact ⟨env, st, g, si, af.bind.imp fun d1 st1 g1 H1 l1 si1 af1 x rx => ⟨env, st1, g1, si1, af1.bind.imp fun d2 st2 g2 H2 l2 si2 af2 y ry => ⟨env, σ, st2, g2, d1, d2, si2, rx.mono l2, ry, af2⟩⟩⟩
theorem ct_cmpH (k : CtxH X W n p hf N sc own) {ea eb : Expr} {a b : E} {pos : Pos} (op : Cm) (hm : behindInMarks (opC op) eb = false) (ha : PE X ea (tMT W g0 H0 WF0 (evT W.T (callN W.T n) a))) (hb : PE X eb (tMT W g0 H0 WF0 (evT W.T (callN W.T n) b))) :
    PT X (.Compare ea [opC op] [eb] pos) (tMB W g0 H0 WF0 (ev W.T (callN W.T n) (.cmp op a b))) :=
  (pt_cmpR (op_cmpR (W := W) (g0 := g0) (H0 := H0) (Wx := WF0) k.xw op) ha hb hm).imp' fun σ H Q h => by
    obtain ⟨env, st, g, si, af⟩ := tM_sub (fun env s => cmp_sub k.noE env s) (tMB_tM h)
    exact ⟨env, st, g, si, af.bind.imp fun d1 st1 g1 H1 l1 si1 af1 x rx => ⟨env, st1, g1, si1, af1.bind.imp fun d2 st2 g2 H2 l2 si2 af2 y ry => ⟨env, σ, st2, g2, d1, d2, si2, rx.mono l2, ry, af2⟩⟩⟩
/-- all(xs), where an exception is handled -/
theorem cr_allPH (xw : XW X W) (hc : HotC X) : CallR X (.builtin "all") (rPrim W g0 H0 WF0 .all) := by
  intro pins s σ' H xs us Q I rs ⟨env, σ, st, g, ds, si, rr, af⟩
  replace af : Aft W g0 H0 WF0 env σ g (R.of (pAll st ds) st) (Nw W H0 env σ Q) := af
  unfold pAll at af
  split at af
  · rename_i x
    obtain ⟨xv, ex, r⟩ := p1 rr
    subst ex
    cases hi : listOf st x with
    | none => rw [hi] at af; exact af.elim
    | some l =>
      rw [hi] at af
      simp only [Option.bind_some] at af
      cases hn : blsOf l with
      | none => rw [hn] at af; exact af.elim
      | some is =>
        rw [hn] at af
        obtain ⟨a, vs, h1, h2, h3⟩ := si.list xw.ok r hi
        subst h1
        rw [bls_rv hn h3] at h2
        exact cr_allH hc pins s σ' H _ us Q I rs ⟨a, is, rfl, .of h2, fin0N si af rfl⟩
  · exact af.elim
theorem prm_sub (hL : ∀ c, W.T.lenm c = none) {C : CallF} {q : Pr} {es : As} (env : Env) (s : Sto) :
    ev W.T C (.prm q es) env s = ((evTs W.T C es env s).bind fun ds s => R.of (prim s q ds) s) ∨ ev W.T C (.prm q es) env s = .bad := by
  simp only [ev]
  refine bind_sub _ fun ds s => ?_
  unfold prmR
  split
  · split
    · refine .inr ?_
      unfold lenO
      split
      · split
        · rw [hL]
        · rfl
      · rfl
    · exact .inl rfl
  · exact .inl rfl
theorem cf_prmH (k : CtxH X W n p hf N sc own) {q : Pr} {x : Str} {f : PF} (hq : q = .len ∨ q = .all) (h : primF q = some (x, f)) (hg : Gl X x) (hm : X.mg x = none) {e : Expr} {es' : List Expr} {es : As} {pp pos : Pos} (ha : PA X (e :: es') (tMAT W g0 H0 WF0 (evTs W.T (callN W.T n) es)))
    (he : starEach (e :: es') X.env = (false, eval e X.env) :: starEach es' X.env) (hpl : (backTo pos (starEach es' X.env)).any (·.1) = false) : PE X (.Call (.Name x pp) (e :: es') [] pos) (tM W g0 H0 WF0 (ev W.T (callN W.T n) (.prm q es))) := by
  obtain ⟨h1, h2, h3⟩ := prim_boot h
  rcases hq with rfl | rfl
  · cases h
    exact (pe_callB (cr_len (W := W) (g0 := g0) (H0 := H0) (Wx := WF0) k.xw) hg hm h1 ha h2 h3 he hpl).imp' fun σ H Q t => imp_prim (tM_sub (fun env s => prm_sub k.noL env s) t)
  · cases h
    exact (pe_callB (cr_allPH (W := W) (g0 := g0) (H0 := H0) k.xw k.hc) hg hm h1 ha h2 h3 he hpl).imp' fun σ H Q t => imp_prim (tM_sub (fun env s => prm_sub k.noL env s) t)
/-- f(..) -/
theorem cf_callH (k : CtxH X W n p hf N sc own) {f : Nat} {es : As} {e : Expr} {es' : List Expr} {pp pos : Pos} (hh : hf f = true) (hF : W.isG f = true) (hg : Gl X (W.gn f)) (hdb : (W.gn f == ("__debug__" : Str)) = false) (ha : PA X (e :: es') (tMA W g0 H0 WF0 (evs W.T (callN W.T n) es)))
    (he : starEach (e :: es') X.env = (false, eval e X.env) :: starEach es' X.env) (hpl : (backTo pos (starEach es' X.env)).any (·.1) = false) : PE X (.Call (.Name (W.gn f) pp) (e :: es') [] pos) (tM W g0 H0 WF0 (ev W.T (callN W.T n) (.call f es))) := by
  obtain ⟨hm, hk⟩ := k.wok.gf f hF
  obtain ⟨F, hb⟩ := k.fns f hh
  refine (pe_callH (E := fun σ => WE WF0 σ) F k.room k.hc hg (by rw [k.xw.mg]; exact hm) (by rw [k.xw.K]; exact hk) hb (fun σ => L2N.passAt takes0N σ) ha hdb he hpl).imp' fun σ H Q ⟨env, st, g, si, af⟩ => ?_
  simp only [ev] at af
  exact ⟨env, st, g, si, af.bind.imp fun ds st1 g1 H1 l1 si1 af1 vs rvs => ⟨g1, st1, ds, si1.hs, rvs, aftC_of si1 af1⟩⟩
end
theorem hok_nt {a : E} (ha : HokE M W n hf N a) : HokE M W n hf N (.nt a) := fun hh X p sc own k x h g0 H0 => by
  simp only [hotE] at hh
  simp only [chkE] at h
  split at h
  · exact cf_nt (ha hh X p sc own k _ h g0 H0)
  · cases h
theorem hok_and {a b : E} (ha : HokE M W n hf N a) (hb : HokE M W n hf N b) : HokE M W n hf N (.and a b) := fun hh X p sc own k x h g0 H0 => by
  simp only [hotE, Bool.and_eq_true] at hh
  simp only [chkE] at h
  split at h
  · simp only [Bool.and_eq_true] at h
    exact cf_and (ha hh.1 X p sc own k _ h.1 g0 H0) (pe_and1 (hb hh.2 X p sc own k _ h.2 g0 H0))
  · simp only [Bool.and_eq_true] at h
    exact cf_and (ha hh.1 X p sc own k _ h.1 g0 H0) (hb hh.2 X p sc own k _ h.2 g0 H0)
  · cases h
theorem hok_cmp {op : Cm} {a b : E} (ha : HokE M W n hf N a) (hb : HokE M W n hf N b) : HokE M W n hf N (.cmp op a b) := fun hh X p sc own k x h g0 H0 => by
  simp only [hotE, Bool.and_eq_true] at hh
  simp only [chkE] at h
  split at h
  · simp only [Bool.and_eq_true] at h
    rw [cmE_eq h.1.1.1]
    exact cf_cmpH k op (marks_no h.1.1.2) (look_ofH k h.1.2 (ha hh.1 X p sc own k _ h.1.2 g0 H0)) (look_ofH k h.2 (hb hh.2 X p sc own k _ h.2 g0 H0))
  · cases h
/-- as a test -/
theorem hok_cmpT {op : Cm} {a b : E} (ha : HokE M W n hf N a) (hb : HokE M W n hf N b) (hh : hotE hf (.cmp op a b) = true) {X : Cx} {p : Addr × Obj} {sc : Scope} {own : Option Scope} (k : CtxH X W n p hf N sc own) {x : Expr} (h : chkE M N (.cmp op a b) sc own x = true) (g0 : Gh) (H0 : Hp) :
    PT X x (tMB W g0 H0 WF0 (ev W.T (callN W.T n) (.cmp op a b))) := by
  simp only [hotE, Bool.and_eq_true] at hh
  simp only [chkE] at h
  split at h
  · simp only [Bool.and_eq_true] at h
    rw [cmE_eq h.1.1.1]
    exact ct_cmpH k op (marks_no h.1.1.2) (look_ofH k h.1.2 (ha hh.1 X p sc own k _ h.1.2 g0 H0)) (look_ofH k h.2 (hb hh.2 X p sc own k _ h.2 g0 H0))
  · cases h
theorem hok_sub {a b : E} (ha : HokE M W n hf N a) (hb : HokE M W n hf N b) : HokE M W n hf N (.sub a b) := fun hh X p sc own k x h g0 H0 => by
  simp only [hotE, Bool.and_eq_true] at hh
  simp only [chkE] at h
  split at h
  · simp only [Bool.and_eq_true] at h
    exact cf_sub k.xw (ix_plain h.1.1) (look_ofH k h.1.2 (ha hh.1 X p sc own k _ h.1.2 g0 H0)) (hb hh.2 X p sc own k _ h.2 g0 H0)
  · cases h
theorem hok_isi (mk : NmsOk2 M W) {o : E} {t : Ty} (ho : HokE M W n hf N o) : HokE M W n hf N (.isi o t) := fun hh X p sc own k x h g0 H0 => by
  simp only [hotE, Bool.and_eq_true] at hh
  simp only [chkE] at h
  split at h
  · rename_i y p1 eo z p2 pos
    simp only [Bool.and_eq_true, beq_iff_eq] at h
    obtain ⟨⟨⟨⟨⟨⟨⟨hy, hbi⟩, hg⟩, hgz⟩, hn⟩, hst⟩, hc⟩, ht⟩ := h
    subst hy
    have po := look_ofH k hc (ho hh.1 X p sc own k eo hc g0 H0)
    have hm : X.mg ("isinstance" : Str) = none := by rw [k.xw.mg]; exact mk.bi _ hbi
    split at ht
    · exact absurd hh.2 (by simp)
    · split at ht
      · rename_i w b hw
        simp only [Bool.and_eq_true, beq_iff_eq] at ht
        obtain ⟨hz, hbz⟩ := ht
        subst hz
        obtain ⟨q1, q2, q3, q4⟩ := ty_ok hw
        exact cf_isi k.xw q1 q2 (glH k hg) hm (glH k hgz) (by rw [k.xw.mg]; exact mk.bi _ hbz) q3 q4 po (star_cons hst)
      · cases ht
  · cases h
theorem hok_prm (mk : NmsOk2 M W) {q : Pr} {es : As} (h1 : HokAs M W n hf N es) : HokE M W n hf N (.prm q es) := fun hh X p sc own k x h g0 H0 => by
  simp only [hotE, Bool.and_eq_true, Bool.or_eq_true, beq_iff_eq] at hh
  simp only [chkE] at h
  split at h
  · rename_i hb
    rcases hh.1 with rfl | rfl <;> simp [nestB] at hb
  split at h
  · rename_i y pp l pos _
    simp only [Bool.and_eq_true] at h
    obtain ⟨⟨⟨⟨hp, hbi⟩, hg⟩, hl⟩, ha⟩ := h
    split at hp
    · rename_i z f hz
      rw [beq_iff_eq] at hp
      subst hp
      have pa := (h1 hh.2 X p sc own k l ha g0 H0).2
      obtain ⟨e, r, eq, q1, q2, _, _⟩ := args_of hl
      subst eq
      exact cf_prmH k hh.1 hz (glH k hg) (by rw [k.xw.mg]; exact mk.bi _ hbi) pa (star_cons q1) (star_all q2)
    · cases hp
  · cases h
theorem hok_call (mk : NmsOk2 M W) {f : Nat} {es : As} (h1 : HokAs M W n hf N es) : HokE M W n hf N (.call f es) := fun hh X p sc own k x h g0 H0 => by
  simp only [hotE, Bool.and_eq_true] at hh
  simp only [chkE] at h
  split at h
  · rename_i y pp l pos
    simp only [Bool.and_eq_true, beq_iff_eq] at h
    obtain ⟨⟨⟨⟨⟨hG, hy⟩, hg⟩, hn⟩, hl⟩, ha⟩ := h
    have pa := (h1 hh.2 X p sc own k l ha g0 H0).1
    rw [← mk.isG] at hG
    rw [← mk.gn] at hy
    subst hy
    cases l with
    | nil =>
      obtain ⟨F, _⟩ := k.fns f hh.1
      cases es with
      | nil =>
        exact ⟨fun pins s σ H Q I ⟨env, st, g, si, af⟩ => by
          simp only [ev, evs] at af
          refine wpAny_Call_Name_kw (ld_glob I (glH k hg) (by rw [k.xw.mg]; exact (k.wok.gf f hG).1) ?_ (nm_of hn).1)
          refine PySem.W.callWith_K0 I.kIn (by rw [k.xw.K]; exact (k.wok.gf f hG).2) ?_
          exact run_fnH F k.room k.hc (k.fns f hh.1).2 (L2N.passAt takes0N σ) I .nil ⟨g, st, [], si.hs, .nil, aftC_of (Wx := WF0) si af⟩⟩
      | _ => simp [chkAs] at ha
    | cons e r =>
      have hl' : argsB (e :: r) = true := by simpa using hl
      obtain ⟨e', r', eq, q1, q2, _, _⟩ := args_of hl'
      cases eq
      exact cf_callH k hh.1 hG (glH k hg) (nm_of hn).1 pa (star_cons q1) (star_all q2)
  · cases h
theorem hok_fr {f : F} (h1 : HokF M W n hf N f) : HokE M W n hf N (.fr f) := fun hh X p sc own k x h g0 H0 => by
  simp only [hotE] at hh
  simp only [chkE] at h
  exact cf_fr (h1 hh X p sc own k x h g0 H0)
theorem hoki_rg (mk : NmsOk2 M W) {es : As} (h1 : HokAs M W n hf N es) : HokI M W n hf N (.rg es) := fun hh X p sc own k x h tg g0 H0 => by
  simp only [hotI, Bool.and_eq_true] at hh
  obtain ⟨hh, h2⟩ := hh
  simp only [chkI] at h
  split at h
  · rename_i y pp l pos
    simp only [Bool.and_eq_true, beq_iff_eq, decide_eq_true_eq] at h
    obtain ⟨⟨⟨⟨⟨hy, hbi⟩, hg⟩, hl⟩, hz⟩, ha⟩ := h
    subst hy
    have pa := (h1 hh X p sc own k l ha g0 H0).2
    have hm : X.mg ("range" : Str) = none := by rw [k.xw.mg]; exact mk.bi _ hbi
    obtain ⟨e, r, eq, q1, q2, _, _⟩ := args_of hl
    subst eq
    split at h2
    · rename_i a
      have hr : r = [] := by
        simp only [chkAs, Bool.and_eq_true] at ha
        cases r with
        | nil => rfl
        | cons _ _ => exact absurd ha.2 (by simp)
      subst hr
      exact ⟨_, pi_range1H (glH k hg) hm pa (star_cons q1), fun σ H R t => rg1_imp (fun env s ds s' q => evTs_len ha q) t⟩
    · cases h2
  · cases h
theorem patH {X : Cx} {p : Addr × Obj} {sc : Scope} {own : Option Scope} (k : CtxH X W n p hf N sc own) {i : Nat} {x : Expr} (h : chkPat N sc own (.nm i) x = true) (g0 : Gh) (H0 : Hp) : PG X x (tB W g0 H0 (.nm i)) := by
  unfold chkPat at h
  split at h
  · rename_i e
    cases e
    simp only [Bool.and_eq_true] at h
    exact cg_nm k.nd (slotH k h.1.1) (locH k h.1.2) (stoH k h.2)
  · rename_i e
    cases e
  · cases h
theorem hokf_cp {pt : Pat} {it : I} {c : Oe} {e : E} (hi : HokI M W n hf N it) (he : HokE M W n hf N e) : HokF M W n hf N (.cp pt it c e) := fun hh X p sc own k x h g0 H0 => by
  simp only [hotF, Bool.and_eq_true] at hh
  obtain ⟨⟨⟨hp1, hc1⟩, hi1⟩, he1⟩ := hh
  simp only [chkF] at h
  split at h
  · rename_i elt tg iter ifs scope pos
    simp only [Bool.and_eq_true, Bool.or_eq_true, Bool.not_eq_true'] at h
    obtain ⟨⟨⟨⟨⟨⟨hpl, hu⟩, hb⟩, hpp⟩, hit⟩, hif⟩, hel⟩ := h
    cases pt with
    | tp _ => cases hp1
    | nm i =>
      cases c with
      | so _ => cases hc1
      | no =>
        simp only [chkIfs] at hif
        cases ifs with
        | cons _ _ => cases hif
        | nil =>
          obtain ⟨wi, pih, imp⟩ := hi hi1 X p sc own k _ hit tg g0 H0
          refine (pe_lcH (own := [(N.getD i ⟨#[]⟩, i)]) (tt := tCx W (evC W.T (callN W.T n) .no)) (g := tBx W (.nm i)) k.hot k.hp k.nd pih (by rw [k.hN, k.hsc]; exact blkOk_by hb)
            (fun s H C cl fp => pgx fun g0 H0 => patH (k.blk (blk_kind hb) s H C cl fp) hpp g0 H0)
            (fun s H C cl fp => pts_no) (fun s H C cl fp => pex fun g0 H0 => he he1 _ _ _ _ (k.blk (blk_kind hb) s H C cl fp) _ hel g0 H0) (fun x => fold_no hpl x)).imp' fun σ H Q t => ?_
          rw [cp_eq] at t
          exact imp σ H _ (lc_imp (u := false) (fun z => by cases z) t)
  · cases h
mutual
theorem hotE_ok (mk : NmsOk2 M W) : ∀ e, HokE M W n hf N e
  | .var i => fun _ X p sc own k x h g0 H0 => by
    simp only [chkE] at h
    split at h
    · simp only [Bool.and_eq_true] at h
      exact cf_var (slotH k h.1.1) (visH k h.1.2) (nm_of h.2).1 (nm_of h.2).2
    · cases h
  | .cst d => fun _ X p sc own k x h g0 H0 => const_okH mk k (by simpa only [chkE] using h)
  | .nt a => hok_nt (hotE_ok mk a)
  | .and a b => hok_and (hotE_ok mk a) (hotE_ok mk b)
  | .cmp op a b => hok_cmp (hotE_ok mk a) (hotE_ok mk b)
  | .isi o t => hok_isi mk (hotE_ok mk o)
  | .ite c a b => fun hh X p sc own k x h g0 H0 => by
    simp only [hotE, Bool.and_eq_true] at hh
    simp only [chkE] at h
    split at h
    · simp only [Bool.and_eq_true] at h
      exact cf_ite (hotT_ok mk c hh.1.1.1 hh.1.1.2 k h.1.1.2 g0 H0) (hotE_ok mk a hh.1.2 X p sc own k _ h.1.2 g0 H0) (hotE_ok mk b hh.2 X p sc own k _ h.2 g0 H0)
    · cases h
  | .sub o i => hok_sub (hotE_ok mk o) (hotE_ok mk i)
  | .prm q es => hok_prm mk (hotAs_ok mk es)
  | .call f es => hok_call mk (hotAs_ok mk es)
  | .fr f => hok_fr (hotF_ok mk f)
  | .tup _ => fun hh => by simp [hotE] at hh
  | .bin _ _ _ => fun hh => by simp [hotE] at hh
  | .neg _ => fun hh => by simp [hotE] at hh
  | .or _ _ => fun hh => by simp [hotE] at hh
  | .chn _ _ _ _ _ => fun hh => by simp [hotE] at hh
  | .meth _ _ _ => fun hh => by simp [hotE] at hh
  | .new _ _ => fun hh => by simp [hotE] at hh
  | .bme _ _ _ => fun hh => by simp [hotE] at hh
  | .mut _ _ _ => fun hh => by simp [hotE] at hh
  | .att _ _ => fun hh => by simp [hotE] at hh
  | .slc _ _ _ => fun hh => by simp [hotE] at hh
  | .al _ => fun hh => by simp [hotE] at hh
  | .fst _ => fun hh => by simp [hotE] at hh
  | .exf _ _ => fun hh => by simp [hotE] at hh
  | .kin _ _ => fun hh => by simp [hotE] at hh
  | .ksb _ _ => fun hh => by simp [hotE] at hh
  | .hx _ => fun hh => by simp [hotE] at hh
  | .dead => fun hh => by simp [hotE] at hh
theorem hotT_ok (mk : NmsOk2 M W) : ∀ c, (match c with | .cmp _ _ _ => true | _ => false) = true → hotE hf c = true → ∀ {X : Cx} {p : Addr × Obj} {sc : Scope} {own : Option Scope}, CtxH X W n p hf N sc own → ∀ {x : Expr}, chkE M N c sc own x = true → ∀ g0 H0, PT X x (tMB W g0 H0 WF0 (ev W.T (callN W.T n) c))
  | .cmp op a b => fun _ hh _ _ _ _ k _ h g0 H0 => hok_cmpT (hotE_ok mk a) (hotE_ok mk b) hh k h g0 H0
  | .var _ => fun z => by cases z
  | .cst _ => fun z => by cases z
  | .nt _ => fun z => by cases z
  | .and _ _ => fun z => by cases z
  | .isi _ _ => fun z => by cases z
  | .ite _ _ _ => fun z => by cases z
  | .sub _ _ => fun z => by cases z
  | .prm _ _ => fun z => by cases z
  | .call _ _ => fun z => by cases z
  | .fr _ => fun z => by cases z
  | .tup _ => fun z => by cases z
  | .bin _ _ _ => fun z => by cases z
  | .neg _ => fun z => by cases z
  | .or _ _ => fun z => by cases z
  | .chn _ _ _ _ _ => fun z => by cases z
  | .meth _ _ _ => fun z => by cases z
  | .new _ _ => fun z => by cases z
  | .bme _ _ _ => fun z => by cases z
  | .mut _ _ _ => fun z => by cases z
  | .att _ _ => fun z => by cases z
  | .slc _ _ _ => fun z => by cases z
  | .al _ => fun z => by cases z
  | .fst _ => fun z => by cases z
  | .exf _ _ => fun z => by cases z
  | .kin _ _ => fun z => by cases z
  | .ksb _ _ => fun z => by cases z
  | .hx _ => fun z => by cases z
  | .dead => fun z => by cases z
theorem hotAs_ok (mk : NmsOk2 M W) : ∀ es, HokAs M W n hf N es
  | .nil => fun _ X p sc own k l h g0 H0 => by
    simp only [chkAs] at h
    cases l with
    | nil => exact ⟨ca_nil, caT_nil⟩
    | cons _ _ => cases h
  | .cons e es => fun hh X p sc own k l h g0 H0 => by
    simp only [hotAs, Bool.and_eq_true] at hh
    simp only [chkAs] at h
    split at h
    · simp only [Bool.and_eq_true] at h
      have q := hotE_ok mk e hh.1 X p sc own k _ h.1.2 g0 H0
      have r := hotAs_ok mk es hh.2 X p sc own k _ h.2 g0 H0
      exact ⟨ca_cons (star_cons h.1.1) q r.1, caT_cons (star_cons h.1.1) (look_ofH k h.1.2 q) r.2⟩
    · cases h
  | .star e es => fun hh => by simp [hotAs] at hh
theorem hotF_ok (mk : NmsOk2 M W) : ∀ f, HokF M W n hf N f
  | .cp pt it c e => hokf_cp (hotI_ok mk it) (hotE_ok mk e)
  | .lst _ => fun hh => by simp [hotF] at hh
  | .cat _ _ => fun hh => by simp [hotF] at hh
  | .cp2 _ _ _ _ _ => fun hh => by simp [hotF] at hh
  | .dn _ => fun hh => by simp [hotF] at hh
  | .dd _ _ => fun hh => by simp [hotF] at hh
  | .d1 _ _ => fun hh => by simp [hotF] at hh
  | .dcp _ _ _ _ => fun hh => by simp [hotF] at hh
  | .pr _ _ => fun hh => by simp [hotF] at hh
theorem hotI_ok (mk : NmsOk2 M W) : ∀ it, HokI M W n hf N it
  | .rg es => hoki_rg mk (hotAs_ok mk es)
  | .sq _ => fun hh => by simp [hotI] at hh
  | .en _ => fun hh => by simp [hotI] at hh
  | .ky _ => fun hh => by simp [hotI] at hh
end
end
end CF
/-! CFHot6 -/
set_option maxHeartbeats 1000000
/-! Functions that run where an exception is handled. -/
namespace CF
open PySem PySem.Spec L2 L2H
/-- a test that is served -/
def hotTst (hf : Nat → Bool) : E → Bool
  | .cmp op a b => hotE hf (.cmp op a b)
  | .isi o t => hotE hf (.isi o t)
  | .var i => true
  | .nt (.var i) => true
  | _ => false
mutual
def hotS (hf : Nat → Bool) : S → Bool
  | .ret e => hotE hf e
  | .cnd c a b => hotTst hf c && hotSs hf a && hotSs hf b
  | .dead => true
  | _ => false
def hotSs (hf : Nat → Bool) : Ss → Bool
  | .nil => true
  | .cons a r => hotS hf a && hotSs hf r
end
section
variable {M : Nms} {W : Wld} {n : Nat} {N : List Str} {hf : Nat → Bool}
theorem hotTst_ok (mk : NmsOk2 M W) {c : E} (hh : hotTst hf c = true) {X : Cx} {p : Addr × Obj} {sc : Scope} {own : Option Scope} (k : CtxH X W n p hf N sc own) {x : Expr} (ht : tstE c x = true) (h : chkE M N c sc own x = true) (g0 : Gh) (H0 : Hp) :
    PT X x (tMB W g0 H0 WF0 (ev W.T (callN W.T n) c)) := by
  cases c with
  | cmp op a b => exact hok_cmpT (hotE_ok mk a) (hotE_ok mk b) hh k h g0 H0
  | isi o t =>
    simp only [tstE] at ht
    exact pt_cf (hotE_ok mk (.isi o t) hh X p sc own k x h g0 H0) fun whole => test_eq (env := X.env) ht whole
  | var i =>
    simp only [tstE] at ht
    exact pt_cf (hotE_ok mk (.var i) rfl X p sc own k x h g0 H0) fun whole => test_eq (env := X.env) ht whole
  | nt a =>
    cases a with
    | var i =>
      simp only [chkE] at h
      split at h
      · simp only [tstE] at ht
        have hv := hotE_ok (n := n) (hf := hf) mk (.var i) rfl X p sc own k _ (by simp only [chkE]; exact h) g0 H0
        exact ct_nt (pt_cf hv fun whole => test_eq (env := X.env) ht whole)
      · cases h
    | _ => cases hh
  | _ => cases hh
def HokS (M : Nms) (W : Wld) (n : Nat) (hf : Nat → Bool) (N : List Str) (a : S) : Prop := hotS hf a = true → ∀ (X : Cx) (p : Addr × Obj) (sc : Scope), CtxH X W n p hf N sc none → ∀ x, chkS M N sc a x = true → ∀ g0 H0, PS X x (tS W g0 H0 WF0 (ex W.T (callN W.T n) a))
def HokSs (M : Nms) (W : Wld) (n : Nat) (hf : Nat → Bool) (N : List Str) (a : Ss) : Prop := hotSs hf a = true → ∀ (X : Cx) (p : Addr × Obj) (sc : Scope), CtxH X W n p hf N sc none → ∀ l, chkSs M N sc a l = true → ∀ g0 H0, PSs X l (tS W g0 H0 WF0 (exs W.T (callN W.T n) a))
theorem hoks_ret (mk : NmsOk2 M W) {e : E} : HokS M W n hf N (.ret e) := fun hh X p sc k x h g0 H0 => by
  simp only [hotS] at hh
  simp only [chkS] at h
  split at h
  · exact cs_ret (hotE_ok mk e hh X p sc none k _ h g0 H0)
  · cases h
theorem hoks_cnd (mk : NmsOk2 M W) {c : E} {a b : Ss} (ha : HokSs M W n hf N a) (hb : HokSs M W n hf N b) : HokS M W n hf N (.cnd c a b) := fun hh X p sc k x h g0 H0 => by
  simp only [hotS, Bool.and_eq_true] at hh
  simp only [chkS] at h
  split at h
  · simp only [Bool.and_eq_true] at h
    exact cs_cnd (hotTst_ok mk hh.1.1 k h.1.1.1 h.1.1.2 g0 H0) (ha hh.1.2 X p sc k _ h.1.2 g0 H0) (hb hh.2 X p sc k _ h.2 g0 H0)
  · cases h
theorem hoks_dead : HokS M W n hf N .dead := fun _ X p sc k x h g0 H0 => ⟨fun pins s σ H D I ⟨env, st, g, si, af⟩ => by
  simp only [ex] at af
  exact af.elim⟩
theorem frz_no {a : S} (h : hotS hf a = true) : isFrz a = false := by
  cases a <;> first
    | rfl
    | (simp [hotS] at h; done)
mutual
theorem hotS_ok (mk : NmsOk2 M W) : ∀ a, HokS M W n hf N a
  | .ret e => hoks_ret mk
  | .cnd c a b => hoks_cnd mk (hotSs_ok mk a) (hotSs_ok mk b)
  | .dead => hoks_dead
  | .asg _ _ => fun hh => by simp [hotS] at hh
  | .par _ _ _ _ => fun hh => by simp [hotS] at hh
  | .own _ _ => fun hh => by simp [hotS] at hh
  | .seta _ _ _ => fun hh => by simp [hotS] at hh
  | .seti _ _ _ => fun hh => by simp [hotS] at hh
  | .setiO _ _ _ => fun hh => by simp [hotS] at hh
  | .aug _ _ => fun hh => by simp [hotS] at hh
  | .auga _ _ _ => fun hh => by simp [hotS] at hh
  | .augiO _ _ _ => fun hh => by simp [hotS] at hh
  | .mutO _ _ _ => fun hh => by simp [hotS] at hh
  | .ex _ => fun hh => by simp [hotS] at hh
  | .retN => fun hh => by simp [hotS] at hh
  | .frz _ => fun hh => by simp [hotS] at hh
  | .for _ _ _ => fun hh => by simp [hotS] at hh
  | .whl _ _ => fun hh => by simp [hotS] at hh
  | .rais _ _ => fun hh => by simp [hotS] at hh
  | .tr _ _ => fun hh => by simp [hotS] at hh
  | .pass => fun hh => by simp [hotS] at hh
theorem hotSs_ok (mk : NmsOk2 M W) : ∀ a, HokSs M W n hf N a
  | .nil => fun _ X p sc k l h g0 H0 => by
    simp only [chkSs] at h
    cases l with
    | nil => exact cs_nil
    | cons _ _ => cases h
  | .cons a r => fun hh X p sc k l h g0 H0 => by
    simp only [hotSs, Bool.and_eq_true] at hh
    have ha := hotS_ok mk a hh.1
    have hr := hotSs_ok mk r hh.2
    simp only [chkSs, frz_no hh.1, Bool.false_eq_true, if_false] at h
    split at h
    · simp only [Bool.and_eq_true] at h
      exact cs_cons (ha X p sc k _ h.1 g0 H0) (hr X p sc k _ h.2 g0 H0)
    · cases h
end
/-- the functions of a table, where p is handled -/
theorem hfns_ok (wok : WOk W) (mk : NmsOk2 M W) (base : Heap) (noE : ∀ c, W.T.eqm c = none) (noL : ∀ c, W.T.lenm c = none)
    (hF : ∀ f, hf f = true → ∃ fd x qual st N, W.T.fn f = some fd ∧ FOne M W f fd x qual st N ∧ hotSs hf fd.body = true) : ∀ n f, hf f = true → FnH W.P W.w W.K W.mg base (L2N.CX W.P W.w) (n + 1) (W.ad f) (W.fd f) (W.ps f) (spH W n f) ∧ Binds W.K (W.fd f) (W.ps f) [] := by
  intro n
  induction n with
  | zero =>
    intro f hh
    obtain ⟨fd, x, qual, st, N, h, F, hs⟩ := hF f hh
    exact ⟨⟨fun vs H Q E ⟨g, s, ds, _, _, z⟩ => z.elim, fun A outer s H args us vs Q E p _ _ _ _ _ _ ⟨g, s2, ds, _, _, z⟩ => z.elim⟩, F.bi⟩
  | succ n ih =>
    intro f hh
    obtain ⟨fd, x, qual, st, N, h, F, hs⟩ := hF f hh
    obtain ⟨oc, od, kV, doc, pm, an, cdv, ct, osl, e, lk, hcd⟩ := F.fn.ex
    refine ⟨?_, F.bi⟩
    rw [e] at lk ⊢
    refine fn_ofH (k := n + 1) lk hcd F.sc ?_ ?_
    · rintro vs H Q E ⟨g, st', ds, _, rv, z⟩
      obtain ⟨fd', e1, e2⟩ := fn_some z
      rw [h] at e1
      cases e1
      rw [pairedLen rv, e2, F.np]
    · rintro A outer s H vs Q E p hot hr ⟨g, sto, ds, hs', rv, z⟩
      unfold callN at z
      simp only [h] at z
      split at z
      · rename_i hc
        have kc : CtxH (cxH (L2N.CX W.P W.w) W.P W.w W.K W.mg base N qual (defScope st) (W.ad f) cdv A outer s H E p) W n p hf N (defScope st) none := {
          xw := ⟨rfl, rfl, rfl, rfl, Nat.lt_of_le_of_lt (Nat.add_le_add_right (Nat.le_add_right _ _) 200) hr.un, wok.ok0⟩
          wok := wok
          nd := F.sc.nd
          hot := hot
          hp := List.mem_singleton.mpr rfl
          room := hr
          hN := rfl
          hsc := rfl
          kind := F.sc.kind
          fn := fun _ _ => rfl
          fns := fun f hh => ih f hh
          noE := noE
          noL := noL }
        refine ⟨_, hotSs_ok mk fd.body hs _ p _ kc _ F.ck g H, ?_⟩
        refine ⟨argEnv fd.nl ds, sto, g, si_start hs' rv F.nl (by rw [hc.1]; exact hc.2), ?_⟩
        revert z
        cases exs W.T (callN W.T n) fd.body (argEnv fd.nl ds) sto with
        | bad => exact fun z => z
        | exc c fs st' => exact fun z cls dd env σ g' H' l si ex => z cls dd g' H' si.hs si.fr ex
        | ok fl st' =>
          cases fl with
          | nx env' => exact fun z σ g' H' l si => z g' H' si.hs si.fr .non trivial
          | rt d => exact fun z v env' σ g' H' l si rv => z g' H' si.hs si.fr v rv
      · exact z.elim
end
end CF
/-! H1 -/
set_option maxHeartbeats 1000000
/-! The handled exception in the small language: hand expressions. -/
namespace CF
open PySem PySem.Spec L2 L2H
/-- the same world, with other hand expressions -/
abbrev Wld.hxw (W : Wld) (f : Nat → Env → Sto → Option D) : Wld := { W with T := { W.T with hx := f }, hs := fun _ => none }
section
variable {W : Wld} {f : Nat → Env → Sto → Option D} {g g0 g' : Gh} {st : Sto} {H H0 H' : Hp} {env : Env} {σ : L2.St}
theorem one_hx {a : Addr} {d : D} : One (W.hxw f) H g a d ↔ One W H g a d := by cases d <;> exact Iff.rfl
theorem so_hx {a : Addr} {o : SO} : SoR (W.hxw f) H g a o ↔ SoR W H g a o := by cases o <;> exact Iff.rfl
theorem HS.hx (h : HS W g st H) : HS (W.hxw f) g st H := ⟨fun a d e => one_hx.mpr (h.fz a d e), h.f0, h.sc, h.len, h.nd, fun n o a e1 e2 => so_hx.mpr (h.so n o a e1 e2), h.mz, h.fa, h.ma, h.lk⟩
theorem HS.unhx (h : HS (W.hxw f) g st H) : HS W g st H := ⟨fun a d e => one_hx.mp (h.fz a d e), h.f0, h.sc, h.len, h.nd, fun n o a e1 e2 => so_hx.mp (h.so n o a e1 e2), h.mz, h.fa, h.ma, h.lk⟩
theorem sl_hx {x : Option V} {s : Slot} : SlR (W.hxw f) H g H0 x s ↔ SlR W H g H0 x s := by
  cases s with
  | ow d => exact exists_congr fun a => and_congr_right fun _ => and_congr_right fun _ => and_congr_right fun _ => and_congr_right fun _ => by cases d <;> exact Iff.rfl
  | _ => exact Iff.rfl
theorem SI.hx (h : SI W g0 H0 env st g σ H) : SI (W.hxw f) g0 H0 env st g σ H := ⟨h.hs.hx, h.fr, h.er.len, fun i s x e1 e2 => sl_hx.mpr (h.er.sl i s x e1 e2), h.er.ap⟩
theorem SI.unhx (h : SI (W.hxw f) g0 H0 env st g σ H) : SI W g0 H0 env st g σ H := ⟨h.hs.unhx, h.fr, h.er.len, fun i s x e1 e2 => sl_hx.mp (h.er.sl i s x e1 e2), h.er.ap⟩
theorem WOk.hxw (w : WOk W) : WOk (W.hxw f) where
  ok0 := w.ok0
  gf := w.gf
  cl := w.cl
  at_ := w.at_
  pr := w.pr
  me := w.me
  eq := w.eq
  eqt := w.eqt
  len := w.len
  mkc := w.mkc
  nm := w.nm
  inj := w.inj
  iB := w.iB
  iO := w.iO
  iG := w.iG
  gc := w.gc
  kd := w.kd
  ex := w.ex
  ex0 := w.ex0
  ex1 := w.ex1
  hx := fun j p h => by cases h
  exs := w.exs
theorem XW.hxw {X : Cx} (x : XW X W) : XW X (W.hxw f) := ⟨x.P, x.w, x.K, x.mg, x.room, x.ok⟩
end
/-- the exception's fields, at the start of what is walked -/
def FldAt (W : Wld) (g0 : Gh) (H0 : Hp) (d : Option Addr) (fs : List (Nat × D)) : Prop := fs = [] ∧ d = none ∨ ∃ dx vs, d = some dx ∧ H0 dx = some (.xd vs) ∧ g0.fz dx = none ∧ dx ∉ g0.mu ∧ Paired (fun p q => p.1 = W.an q.1 ∧ RV g0 p.2 q.2) vs fs
theorem FldAt.on {W : Wld} {g0 g : Gh} {H0 H : Hp} {d : Option Addr} {fs : List (Nat × D)} (h : FldAt W g0 H0 d fs) (f : Frm g0 H0 g H) : d = none ∨ ∃ dx vs, d = some dx ∧ H dx = some (.xd vs) ∧ Paired (fun p q => p.1 = W.an q.1 ∧ RV g p.2 q.2) vs fs := by
  rcases h with ⟨_, h⟩ | ⟨dx, vs, e, h1, h2, h3, h4⟩
  · exact .inl h
  · refine .inr ⟨dx, vs, e, ?_, Paired.mapP h4 fun _ _ q => ⟨q.1, q.2.mono f.le⟩⟩
    rcases f.keep dx _ h1 h3 with q | ⟨⟨l, q⟩, _⟩
    · exact q
    · rw [h2] at q
      cases q
section
variable {X : Cx} {W : Wld} {n : Nat} {g0 : Gh} {H0 : Hp} {a C : Addr} {oe : Obj} {d : Option Addr} {fs : List (Nat × D)} {i j : Nat} {en : Str} {p1 p2 p3 pos : Pos}
theorem ev_hx {T : Tab} {Cf : CallF} {env : Env} {st : Sto} : ev T Cf (.hx j) env st = if env.all (fun x => !isOwS x) then R.of (T.hx j env st) st else .bad := by simp only [ev]
/-- isinstance(e, c), e in slot i -/
theorem pe_isiE {cn : Str} {cv : V} {u : Value} {b : Bool} (hp : (a, oe) ∈ X.pn) (Ec : ExcC X.K C) (hz : Zc (.ref C) d oe) (hf : ∃ vs, oe.data = .fields vs) (hD : FldAt W g0 H0 d fs) (hi : X.N[i]? = some en) (hv : Vis X.env.scope en) (ho : (en == ("__debug__" : Str)) = false ∧ (en == ("__classdict__" : Str)) = false)
    (hg : Gl X "isinstance") (hm : X.mg "isinstance" = none) (hc : PE X (.Name cn p3) (tC cv)) (hu : ∀ w, RelV cv w → w = u) (hk : PySem.W.kitOne X.K (.ref C) u = some b)
    (hx : ∀ env st v, W.T.hx j env st = some v → v = .bl b ∧ ∃ c fs, env[i]? = some (.hd a c fs)) :
    PE X (.Call (.Name "isinstance" p1) [.Name en p2, .Name cn p3] [] pos) (tM W g0 H0 WF0 (ev W.T (callN W.T n) (.hx j))) := by
  have pv : PE X (.Name en p2) (tVar i) := pe_var hi hv ho.1 ho.2
  have pa := pa_cons pv (pa_cons hc pa_nil (by rfl)) (by rfl)
  refine (pe_callB (p := p1) (pos := pos) (call_isP hp Ec hz hf) hg hm boot_isi pa (by decide +kernel) (by decide +kernel) (by rfl) (by rfl)).imp' fun σ H Q ⟨env, st, g, si, af⟩ => ?_
  rw [ev_hx] at af
  split at af
  · cases hv2 : W.T.hx j env st with
    | none => rw [hv2] at af; exact af.elim
    | some v =>
      rw [hv2] at af
      obtain ⟨rfl, c, fs2, e⟩ := hx env st v hv2
      have li : i < σ.length := by
        rw [← si.er.len]
        exact (List.getElem?_eq_some_iff.mp e).1
      obtain ⟨x, hx2⟩ : ∃ x, σ[i]? = some x := ⟨_, List.getElem?_eq_getElem li⟩
      have q : x = some (.ref a) := si.er.sl i _ x e hx2
      subst q
      have q1 : rIsP X.K C a d [.ref a, cv] H Q := ⟨(hD.on si.fr).imp id fun ⟨dx, vs, e1, e2, _⟩ => ⟨dx, vs, e1, e2⟩, cv, u, b, rfl, hu, hk, af g H (.refl g) si (.bl b) rfl⟩
      exact ⟨.ref a, hx2, q1⟩
  · exact af.elim
/-- e.f, e in slot i -/
theorem pe_fldE {k : Nat} {dv : D} (wok : WOk W) (hp : (a, oe) ∈ X.pn) (T : XfC X.K C) (hno : PySem.W.findIn X.K (.ref C) (W.an k) = some none) (hz : Zc (.ref C) d oe) (hf : ∃ vs, oe.data = .fields vs) (hD : FldAt W g0 H0 d fs) (hk : fieldOf fs k = some dv) (hi : X.N[i]? = some en) (hv : Vis X.env.scope en)
    (ho : (en == ("__debug__" : Str)) = false ∧ (en == ("__classdict__" : Str)) = false) (hx : ∀ env st v, W.T.hx j env st = some v → v = dv ∧ ∃ c fs, env[i]? = some (.hd a c fs)) :
    PE X (.Attribute (.Name en p1) (W.an k) pos) (tM W g0 H0 WF0 (ev W.T (callN W.T n) (.hx j))) := by
  have pv : PE X (.Name en p1) (tVar i) := pe_var hi hv ho.1 ho.2
  refine (pe_xfP (pos := pos) hp T hno hz hf pv rfl).imp' fun σ H Q ⟨env, st, g, si, af⟩ => ?_
  rw [ev_hx] at af
  split at af
  · cases hv2 : W.T.hx j env st with
    | none => rw [hv2] at af; exact af.elim
    | some v =>
      rw [hv2] at af
      obtain ⟨rfl, c, fs2, e⟩ := hx env st v hv2
      have li : i < σ.length := by
        rw [← si.er.len]
        exact (List.getElem?_eq_some_iff.mp e).1
      obtain ⟨x, hx2⟩ : ∃ x, σ[i]? = some x := ⟨_, List.getElem?_eq_getElem li⟩
      have q : x = some (.ref a) := si.er.sl i _ x e hx2
      subst q
      rcases hD with ⟨rfl, _⟩ | ⟨dx, vs, e1, e2, e3, e4, e5⟩
      · cases hk
      · rcases FldAt.on (.inr ⟨dx, vs, e1, e2, e3, e4, e5⟩ : FldAt W g0 H0 d fs) si.fr with q | ⟨dx2, vs2, q1, q2, q3⟩
        · rw [e1] at q; cases q
        · obtain ⟨w, h1, h2⟩ := fs_at wok q3 hk
          exact ⟨.ref a, hx2, rfl, rfl, dx2, vs2, w, q1, q2, h1, af g H (.refl g) si w h2⟩
  · exact af.elim
end
end CF
/-! CFWp -/
/-! Runs of the small language: what ends with a value. -/
namespace CF
variable {α β : Type}
/-- the run ends with a value that Q takes -/
def wp (r : R α) (Q : α → Sto → Prop) : Prop := match r with
  | .ok a s => Q a s
  | _ => False
@[simp] theorem wp_ok {a : α} {s : Sto} {Q : α → Sto → Prop} : wp (.ok a s) Q = Q a s := rfl
theorem wp_bind {r : R α} {f : α → Sto → R β} {Q : β → Sto → Prop} : wp (r.bind f) Q = wp r (fun a s => wp (f a s) Q) := by
  cases r <;> rfl
theorem wp_of {r : R α} {a : α} {s : Sto} {Q : α → Sto → Prop} (e : r = .ok a s) (h : Q a s) : wp r Q := by rw [e]; exact h
theorem wp_get {r : R α} {Q : α → Sto → Prop} (h : wp r Q) : ∃ a s, r = .ok a s ∧ Q a s := by
  cases r with
  | ok a s => exact ⟨a, s, rfl, h⟩
  | exc => exact h.elim
  | bad => exact h.elim
theorem wp_mono {r : R α} {Q Q' : α → Sto → Prop} (h : wp r Q) (i : ∀ a s, Q a s → Q' a s) : wp r Q' := by
  cases r with
  | ok a s => exact i a s h
  | exc => exact h.elim
  | bad => exact h.elim
def R.seq (r : R Fl) (k : Env → Sto → R Fl) : R Fl := match r with
  | .ok (.nx e) s => k e s
  | x => x
@[simp] theorem seq_nx {e : Env} {s : Sto} {k : Env → Sto → R Fl} : R.seq (.ok (.nx e) s) k = k e s := Eq.trans rfl rfl
@[simp] theorem seq_rt {d : D} {s : Sto} {k : Env → Sto → R Fl} : R.seq (.ok (.rt d) s) k = .ok (.rt d) s := rfl
theorem seq_bind {r : R α} {f : α → Sto → R Fl} {k : Env → Sto → R Fl} : R.seq (r.bind f) k = r.bind fun a s => R.seq (f a s) k := by
  cases r <;> rfl
theorem seq_seq {r : R Fl} {f k : Env → Sto → R Fl} : R.seq (R.seq r f) k = R.seq r fun e s => R.seq (f e s) k := by
  cases r with
  | ok a s => cases a <;> rfl
  | exc => rfl
  | bad => rfl
theorem wp_seq {r : R Fl} {k : Env → Sto → R Fl} {Q : Fl → Sto → Prop} : wp (R.seq r k) Q = wp r (fun fl s => match fl with | .nx e => wp (k e s) Q | .rt d => Q (.rt d) s) := by
  cases r with
  | ok a s => cases a <;> rfl
  | exc => rfl
  | bad => rfl
def R.ret (r : R Fl) : R D := match r with
  | .ok (.rt d) s => .ok d s
  | .ok (.nx _) s => .ok .non s
  | .exc c fs s => .exc c fs s
  | .bad => .bad
@[simp] theorem ret_rt {d : D} {s : Sto} : R.ret (.ok (.rt d) s) = .ok d s := rfl
@[simp] theorem ret_nx {e : Env} {s : Sto} : R.ret (.ok (.nx e) s) = .ok .non s := rfl
theorem wp_ret {r : R Fl} {Q : D → Sto → Prop} : wp (R.ret r) Q = wp r (fun fl s => match fl with | .nx e => Q .non s | .rt d => Q d s) := by
  cases r with
  | ok a s => cases a <;> rfl
  | exc => rfl
  | bad => rfl
section
variable {T : Tab} {C : CallF} {env : Env} {s : Sto}
@[simp] theorem exs_nil : exs T C .nil env s = .ok (.nx env) s := by simp only [exs]
@[simp] theorem exs_cons {a : S} {r : Ss} : exs T C (.cons a r) env s = R.seq (ex T C a env s) (exs T C r) := by
  simp only [exs]
  unfold R.seq
  cases ex T C a env s with
  | ok fl s => cases fl <;> rfl
  | exc => rfl
  | bad => rfl
@[simp] theorem loopV_nil {f : D → Env → Sto → R Fl} : loopV f [] env s = .ok (.nx env) s := rfl
theorem loopV_cons {f : D → Env → Sto → R Fl} {d : D} {r : List D} : loopV f (d :: r) env s = R.seq (f d env s) (loopV f r) := by
  simp only [loopV]
  unfold R.seq
  cases f d env s with
  | ok fl s => cases fl <;> rfl
  | exc => rfl
  | bad => rfl
theorem exs_skip {a : S} {r : Ss} (h : ex T C a env s = .ok (.nx env) s) : exs T C (.cons a r) env s = exs T C r env s := by
  rw [exs_cons, h, seq_nx]
theorem exs_step {a : S} {r : Ss} {e' : Env} {s' : Sto} (h : ex T C a env s = .ok (.nx e') s') : exs T C (.cons a r) env s = exs T C r e' s' := by
  rw [exs_cons, h, seq_nx]
theorem exs_end {a : S} {r : Ss} {d : D} {s' : Sto} (h : ex T C a env s = .ok (.rt d) s') : exs T C (.cons a r) env s = .ok (.rt d) s' := by
  rw [exs_cons, h, seq_rt]
theorem loopV_app {f : D → Env → Sto → R Fl} {l m : List D} : loopV f (l ++ m) env s = R.seq (loopV f l env s) (loopV f m) := by
  induction l generalizing env s with
  | nil => rfl
  | cons d r ih =>
    rw [List.cons_append, loopV_cons, loopV_cons, seq_seq]
    congr 1
    funext e s
    exact ih
theorem callN_succ {n f : Nat} {fd : FDef} (h : T.fn f = some fd) {ds : List D} (h1 : ds.length = fd.np) (h2 : fd.np ≤ fd.nl) : callN T (n + 1) f ds s = R.ret (exs T (callN T n) fd.body (argEnv fd.nl ds) s) := by
  show (match T.fn f with | none => R.bad | some fd => _) = _
  rw [h]
  simp only []
  rw [if_pos ⟨h1, h2⟩]
  rfl
/-- each item gives its own -/
theorem compV_map {f : D → Sto → R (List D)} {g : D → List D} : ∀ {l : List D}, (∀ d ∈ l, f d s = .ok (g d) s) → compV f l s = .ok (l.flatMap g) s
  | [], _ => rfl
  | d :: r, h => by
    simp only [compV]
    rw [h d (List.mem_cons_self ..)]
    simp only [R.bind]
    rw [compV_map fun x hx => h x (List.mem_cons_of_mem _ hx)]
    simp only [R.bind, List.flatMap_cons]
/-- .. one value each -/
theorem compV_one {f : D → Sto → R (List D)} {g : D → D} : ∀ {l : List D}, (∀ d ∈ l, f d s = .ok [g d] s) → compV f l s = .ok (l.map g) s
  | [], _ => rfl
  | d :: r, h => by
    simp only [compV]
    rw [h d (List.mem_cons_self ..)]
    simp only [R.bind]
    rw [compV_one fun x hx => h x (List.mem_cons_of_mem _ hx)]
    rfl
/-- .. over a list that is mapped -/
theorem compV_onM {γ : Type} {f : D → Sto → R (List D)} {i : γ → D} {g : γ → D} : ∀ {l : List γ}, (∀ d ∈ l, f (i d) s = .ok [g d] s) → compV f (l.map i) s = .ok (l.map g) s
  | [], _ => rfl
  | d :: r, h => by
    simp only [List.map_cons, compV]
    rw [h d (List.mem_cons_self ..)]
    simp only [R.bind]
    rw [compV_onM fun x hx => h x (List.mem_cons_of_mem _ hx)]
    rfl
/-- .. none or one value each -/
theorem compV_opt {γ : Type} {f : D → Sto → R (List D)} {i : γ → D} {g : γ → Option D} : ∀ {l : List γ}, (∀ d ∈ l, f (i d) s = .ok (g d).toList s) → compV f (l.map i) s = .ok (l.filterMap g) s
  | [], _ => rfl
  | d :: r, h => by
    simp only [List.map_cons, compV]
    rw [h d (List.mem_cons_self ..)]
    simp only [R.bind]
    rw [compV_opt fun x hx => h x (List.mem_cons_of_mem _ hx), List.filterMap_cons]
    cases g d <;> rfl
/-- .. many values each -/
theorem compV_many {γ : Type} {f : D → Sto → R (List D)} {i : γ → D} {g : γ → List D} : ∀ {l : List γ}, (∀ d ∈ l, f (i d) s = .ok (g d) s) → compV f (l.map i) s = .ok (l.flatMap g) s
  | [], _ => rfl
  | d :: r, h => by
    simp only [List.map_cons, compV]
    rw [h d (List.mem_cons_self ..)]
    simp only [R.bind]
    rw [compV_many fun x hx => h x (List.mem_cons_of_mem _ hx), List.flatMap_cons]
/-- .. and the store grows -/
theorem compV_grow0 {f : D → Sto → R (List D)} {g : D → D} {st : Sto} : ∀ {l : List D} (e0 : Sto), (∀ d ∈ l, ∀ e, ∃ e', f d (st ++ e) = .ok [g d] (st ++ e ++ e')) → ∃ e, compV f l (st ++ e0) = .ok (l.map g) (st ++ e)
  | [], e0, _ => ⟨e0, rfl⟩
  | d :: r, e0, h => by
    obtain ⟨e1, h1⟩ := h d (List.mem_cons_self ..) e0
    simp only [compV]
    rw [h1]
    simp only [R.bind]
    rw [List.append_assoc]
    obtain ⟨e2, h2⟩ := compV_grow0 (e0 ++ e1) fun x hx => h x (List.mem_cons_of_mem _ hx)
    rw [h2]
    exact ⟨e2, rfl⟩
theorem compV_grow {f : D → Sto → R (List D)} {g : D → D} {st : Sto} {l : List D} (h : ∀ d ∈ l, ∀ e, ∃ e', f d (st ++ e) = .ok [g d] (st ++ e ++ e')) : ∃ e, compV f l st = .ok (l.map g) (st ++ e) := by
  have q := compV_grow0 (st := st) [] h
  rw [List.append_nil] at q
  exact q
/-- .. none or one each, the store grows -/
theorem compV_growO0 {γ : Type} {f : D → Sto → R (List D)} {i : γ → D} {g : γ → Option D} {st : Sto} : ∀ {l : List γ} (e0 : Sto), (∀ d ∈ l, ∀ e, ∃ e', f (i d) (st ++ e) = .ok (g d).toList (st ++ e ++ e')) → ∃ e, compV f (l.map i) (st ++ e0) = .ok (l.filterMap g) (st ++ e)
  | [], e0, _ => ⟨e0, rfl⟩
  | d :: r, e0, h => by
    obtain ⟨e1, h1⟩ := h d (List.mem_cons_self ..) e0
    obtain ⟨e2, h2⟩ := compV_growO0 (e0 ++ e1) fun x hx => h x (List.mem_cons_of_mem _ hx)
    refine ⟨e2, ?_⟩
    rw [List.map_cons, List.filterMap_cons]
    simp only [compV]
    rw [h1]
    simp only [R.bind]
    rw [List.append_assoc, h2]
    cases g d <;> rfl
theorem compV_growO {γ : Type} {f : D → Sto → R (List D)} {i : γ → D} {g : γ → Option D} {st : Sto} {l : List γ} (h : ∀ d ∈ l, ∀ e, ∃ e', f (i d) (st ++ e) = .ok (g d).toList (st ++ e ++ e')) : ∃ e, compV f (l.map i) st = .ok (l.filterMap g) (st ++ e) := by
  have q := compV_growO0 (st := st) [] h
  rw [List.append_nil] at q
  exact q
/-- a walk with an invariant over what is done -/
theorem loopV_wp {f : D → Env → Sto → R Fl} {Q : Fl → Sto → Prop} (I : List D → Env → Sto → Prop) : ∀ {l : List D} {dn : List D} {env : Env} {s : Sto}, I dn env s →
    (∀ dn d env s, I dn env s → d ∈ l → wp (f d env s) (fun fl s' => match fl with | .nx e => I (dn ++ [d]) e s' | .rt v => Q (.rt v) s')) → (∀ env s, I (dn ++ l) env s → Q (.nx env) s) → wp (loopV f l env s) Q
  | [], dn, env, s, h, _, he => he env s (by rw [List.append_nil]; exact h)
  | d :: r, dn, env, s, h, hs, he => by
    rw [loopV_cons, wp_seq]
    refine wp_mono (hs dn d env s h (List.mem_cons_self ..)) fun fl s' q => ?_
    cases fl with
    | nx e => exact loopV_wp I q (fun dn d env s h hd => hs dn d env s h (List.mem_cons_of_mem _ hd)) fun env s h => he env s (by rw [List.append_assoc] at h; exact h)
    | rt v => exact q
/-- a comprehension with an invariant of the store -/
theorem compV_wp {f : D → Sto → R (List D)} {Q : List D → Sto → Prop} (I : List D → List D → Sto → Prop) : ∀ {l : List D} {dn out : List D} {s : Sto}, I dn out s →
    (∀ dn out d s, I dn out s → d ∈ l → wp (f d s) (fun o s' => I (dn ++ [d]) (out ++ o) s')) → (∀ o s, I (dn ++ l) (out ++ o) s → Q o s) → wp (compV f l s) Q
  | [], dn, out, s, h, _, he => he [] s (by rw [List.append_nil, List.append_nil]; exact h)
  | d :: r, dn, out, s, h, hs, he => by
    simp only [compV, wp_bind]
    refine wp_mono (hs dn out d s h (List.mem_cons_self ..)) fun o s' q => ?_
    refine compV_wp I q (fun dn out d s h hd => hs dn out d s h (List.mem_cons_of_mem _ hd)) fun o2 s h => ?_
    rw [wp_ok]
    refine he _ s ?_
    rw [List.append_assoc, List.append_assoc] at h
    exact h
end
/-! ### the meaning, by rows for simp -/
section
variable {T : Tab} {C : CallF} {env : Env} {s : Sto} {k : Env → Sto → R Fl} {e a b c o i : E} {es : As} {r : Ss}
@[simp] theorem bind_ok {x : α} {f : α → Sto → R β} : R.bind (.ok x s) f = f x s := Eq.trans rfl rfl
@[simp] theorem bind_exc {c : Nat} {fs : List (Nat × D)} {f : α → Sto → R β} : R.bind (.exc c fs s) f = .exc c fs s := rfl
@[simp] theorem bind_bad {f : α → Sto → R β} : R.bind .bad f = .bad := rfl
theorem bind_bind {γ : Type} {r : R α} {f : α → Sto → R β} {g : β → Sto → R γ} : R.bind (R.bind r f) g = R.bind r fun a s => R.bind (f a s) g := by cases r <;> rfl
@[simp] theorem of_some {x : α} : R.of (some x) s = .ok x s := Eq.trans rfl rfl
@[simp] theorem of_none : R.of (none : Option α) s = .bad := rfl
@[simp] theorem noExc_ok {x : α} : noExc (.ok x s) = .ok x s := rfl
@[simp] theorem seq_exc {c : Nat} {fs : List (Nat × D)} : R.seq (.exc c fs s) k = .exc c fs s := rfl
@[simp] theorem seq_if {p : Prop} [Decidable p] {x y : R Fl} : R.seq (if p then x else y) k = if p then R.seq x k else R.seq y k := by split <;> rfl
@[simp] theorem ret_if {p : Prop} [Decidable p] {x y : R Fl} : R.ret (if p then x else y) = if p then R.ret x else R.ret y := by split <;> rfl
@[simp] theorem ret_exc {c : Nat} {fs : List (Nat × D)} : R.ret (.exc c fs s) = .exc c fs s := rfl
theorem bind_if {p : Prop} [Decidable p] {x y : R α} {f : α → Sto → R β} : R.bind (if p then x else y) f = if p then R.bind x f else R.bind y f := by split <;> rfl
@[simp] theorem w_asB_ok {b : Bool} : asB (.ok (.bl b) s) = .ok b s := rfl
@[simp] theorem w_asB_bind {r : R α} {f : α → Sto → R D} : asB (R.bind r f) = R.bind r fun a s => asB (f a s) := by cases r <;> rfl
@[simp] theorem w_asB_if {p : Prop} [Decidable p] {x y : R D} : asB (if p then x else y) = if p then asB x else asB y := by split <;> rfl
@[simp] theorem w_ev_var {i : Nat} : ev T C (.var i) env s = R.of (readV env i) s := by
  first | (simp only [ev]; done) | (simp only [ev]; rfl)
@[simp] theorem w_ev_cst {d : D} : ev T C (.cst d) env s = .ok d s := by
  first | (simp only [ev]; done) | (simp only [ev]; rfl)
@[simp] theorem w_ev_tup  : ev T C (.tup es) env s = (evs T C es env s).bind fun ds s => if ds.length ≤ SZ then .ok (.tup ds) s else .bad := by
  first | (simp only [ev]; done) | (simp only [ev]; rfl)
@[simp] theorem w_ev_bin {op : Op2} : ev T C (.bin op a b) env s = (evT T C a env s).bind fun x s => (evT T C b env s).bind fun y s => R.of (opBin op x y) s := by
  first | (simp only [ev]; done) | (simp only [ev]; rfl)
@[simp] theorem w_ev_neg  : ev T C (.neg a) env s = (ev T C a env s).bind fun x s => match x with | .int i => .ok (.int (-i)) s | _ => .bad := by
  first | (simp only [ev]; done) | (simp only [ev]; rfl)
@[simp] theorem w_ev_nt  : ev T C (.nt a) env s = (asB (ev T C a env s)).bind fun b s => .ok (.bl (!b)) s := by
  first | (simp only [ev]; done) | (simp only [ev]; rfl)
@[simp] theorem w_ev_and  : ev T C (.and a b) env s = (asB (ev T C a env s)).bind fun c s => if c then ev T C b env s else .ok (.bl false) s := by
  first | (simp only [ev]; done) | (simp only [ev]; rfl)
@[simp] theorem w_ev_or  : ev T C (.or a b) env s = (asB (ev T C a env s)).bind fun c s => if c then .ok (.bl true) s else ev T C b env s := by
  first | (simp only [ev]; done) | (simp only [ev]; rfl)
@[simp] theorem w_ev_cmp {op : Cm} : ev T C (.cmp op a b) env s = (evT T C a env s).bind fun x s => (evT T C b env s).bind fun y s => cmpR T C op x y s := by
  first | (simp only [ev]; done) | (simp only [ev]; rfl)
@[simp] theorem w_ev_chn {o1 o2 : Cm} : ev T C (.chn o1 o2 a b c) env s = (ev T C a env s).bind fun x s => (ev T C b env s).bind fun y s => (R.of (opCmp s o1 x y) s).bind fun k s => if k then (ev T C c env s).bind fun z s => (R.of (opCmp s o2 y z) s).bind fun k s => .ok (.bl k) s else .ok (.bl false) s := by
  first | (simp only [ev]; done) | (simp only [ev]; rfl)
@[simp] theorem w_ev_ite  : ev T C (.ite c a b) env s = (asB (ev T C c env s)).bind fun k s => if k then ev T C a env s else ev T C b env s := by
  first | (simp only [ev]; done) | (simp only [ev]; rfl)
@[simp] theorem w_ev_call {f : Nat} : ev T C (.call f es) env s = (evs T C es env s).bind fun ds s => C f ds s := by
  first | (simp only [ev]; done) | (simp only [ev]; rfl)
@[simp] theorem w_ev_meth {m : Nat} : ev T C (.meth m o es) env s = (ev T C o env s).bind fun x s => match methF T m x s with | some f => (evs T C es env s).bind fun ds s => C f (x :: ds) s | none => .bad := by
  first | (simp only [ev]; done) | (simp only [ev]; rfl)
@[simp] theorem w_ev_new {c : Nat} : ev T C (.new c es) env s = (evs T C es env s).bind fun ds s => newO T C c ds s := by
  first | (simp only [ev]; done) | (simp only [ev]; rfl)
@[simp] theorem w_ev_prm {p : Pr} : ev T C (.prm p es) env s = (evTs T C es env s).bind fun ds s => prmR T C p ds s := by
  first | (simp only [ev]; done) | (simp only [ev]; rfl)
@[simp] theorem w_ev_bme {b : Bm} : ev T C (.bme b o es) env s = (evT T C o env s).bind fun x s => if bmeOk b x s then (evTs T C es env s).bind fun ds s => R.of (bme s b x ds) s else .bad := by
  first | (simp only [ev]; done) | (simp only [ev]; rfl)
@[simp] theorem w_ev_mut {m : Mu} : ev T C (.mut m o es) env s = (ev T C o env s).bind fun x s => if mutOk m x s then (evs T C es env s).bind fun ds s => mutR m x ds s else .bad := by
  first | (simp only [ev]; done) | (simp only [ev]; rfl)
@[simp] theorem w_ev_att {a : Nat} : ev T C (.att a o) env s = (ev T C o env s).bind fun x s => attR T C a x s := by
  first | (simp only [ev]; done) | (simp only [ev]; rfl)
@[simp] theorem w_ev_sub  : ev T C (.sub o i) env s = (evT T C o env s).bind fun x s => (ev T C i env s).bind fun y s => R.of (opSub s x y) s := by
  first | (simp only [ev]; done) | (simp only [ev]; rfl)
@[simp] theorem w_ev_slc {lo hi : Oe} : ev T C (.slc o lo hi) env s = (evT T C o env s).bind fun x s => (evO T C lo env s).bind fun l s => (evO T C hi env s).bind fun h s => R.of (opSlc s x l h) s := by
  first | (simp only [ev]; done) | (simp only [ev]; rfl)
@[simp] theorem w_ev_fr {f : F} : ev T C (.fr f) env s = evF T C f env s := by
  first | (simp only [ev]; done) | (simp only [ev]; rfl)
@[simp] theorem w_ev_al {f : F} : ev T C (.al f) env s = (evF T C f env s).bind fun d s => match d with | .lst l => alloc s (.lst l) | .dct l => alloc s (.dct l) | _ => .bad := by
  first | (simp only [ev]; done) | (simp only [ev]; rfl)
@[simp] theorem w_ev_isi {t : Ty} : ev T C (.isi o t) env s = (evT T C o env s).bind fun x s => (R.of (isinst T s x t) s).bind fun b s => .ok (.bl b) s := by
  first | (simp only [ev]; done) | (simp only [ev]; rfl)
@[simp] theorem w_evT_var {i : Nat} : evT T C (.var i) env s = R.of (readT env i) s := by
  first | (simp only [evT]; done) | (simp only [evT]; rfl)
@[simp] theorem w_evs_nil  : evs T C .nil env s = .ok [] s := by
  first | (simp only [evs]; done) | (simp only [evs]; rfl)
@[simp] theorem w_evs_cons  : evs T C (.cons e es) env s = (ev T C e env s).bind fun d s => (evs T C es env s).bind fun ds s => .ok (d :: ds) s := by
  first | (simp only [evs]; done) | (simp only [evs]; rfl)
@[simp] theorem w_evs_star  : evs T C (.star e es) env s = (evT T C e env s).bind fun d s => (R.of (itemsOf s d) s).bind fun l s => (evs T C es env s).bind fun ds s => .ok (l ++ ds) s := by
  first | (simp only [evs]; done) | (simp only [evs]; rfl)
@[simp] theorem w_evTs_nil  : evTs T C .nil env s = .ok [] s := by
  first | (simp only [evTs]; done) | (simp only [evTs]; rfl)
@[simp] theorem w_evTs_cons  : evTs T C (.cons e es) env s = (evT T C e env s).bind fun d s => (evTs T C es env s).bind fun ds s => .ok (d :: ds) s := by
  first | (simp only [evTs]; done) | (simp only [evTs]; rfl)
@[simp] theorem w_evO_no  : evO T C .no env s = .ok none s := by
  first | (simp only [evO]; done) | (simp only [evO]; rfl)
@[simp] theorem w_evO_so  : evO T C (.so e) env s = (ev T C e env s).bind fun d s => match d with | .int i => .ok (some (.int i)) s | _ => .bad := by
  first | (simp only [evO]; done) | (simp only [evO]; rfl)
@[simp] theorem w_evC_no  : evC T C .no env s = .ok true s := by
  first | (simp only [evC]; done) | (simp only [evC]; rfl)
@[simp] theorem w_evC_so  : evC T C (.so e) env s = asB (ev T C e env s) := by
  first | (simp only [evC]; done) | (simp only [evC]; rfl)
@[simp] theorem w_evI_sq  : evI T C (.sq e) env s = (ev T C e env s).bind fun d s => srcR d s := by
  first | (simp only [evI]; done) | (simp only [evI]; rfl)
@[simp] theorem w_evI_rg  : evI T C (.rg es) env s = (evTs T C es env s).bind fun ds s => R.of (rngOf ds) s := by
  first | (simp only [evI]; done) | (simp only [evI]; rfl)
@[simp] theorem w_evI_en  : evI T C (.en e) env s = (ev T C e env s).bind fun d s => match d with | .lst l => .ok (.val (enumD 0 l)) s | .tup l => .ok (.val (enumD 0 l)) s | _ => .bad := by
  first | (simp only [evI]; done) | (simp only [evI]; rfl)
@[simp] theorem w_evF_lst  : evF T C (.lst es) env s = (evs T C es env s).bind fun ds s => if ds.length ≤ SZ then .ok (.lst ds) s else .bad := by
  first | (simp only [evF]; done) | (simp only [evF]; rfl)
@[simp] theorem w_evF_cat  : evF T C (.cat a b) env s = (evT T C a env s).bind fun x s => (evT T C b env s).bind fun y s => match x, y with | .lst l, .lst m => if l.length + m.length ≤ SZ then .ok (.lst (l ++ m)) s else .bad | _, _ => .bad := by
  first | (simp only [evF]; done) | (simp only [evF]; rfl)
@[simp] theorem w_evF_dn {t : Bool} : evF T C (.dn t) env s = .ok (.dct []) s := by
  first | (simp only [evF]; done) | (simp only [evF]; rfl)
@[simp] theorem w_evF_dd {x : List Nat} : evF T C (.dd x e) env s = (ev T C e env s).bind fun d s => .ok (.dct [(.str x, d)]) s := by
  first | (simp only [evF]; done) | (simp only [evF]; rfl)
@[simp] theorem w_evF_pr {p : Pr} : evF T C (.pr p es) env s = (evTs T C es env s).bind fun ds s => R.of (prim s p ds) s := by
  first | (simp only [evF]; done) | (simp only [evF]; rfl)
@[simp] theorem w_ex_asg {p : Pat} : ex T C (.asg p e) env s = (ev T C e env s).bind fun d s => match bindPat p d env with | some env' => .ok (.nx env') s | none => .bad := by
  first | (simp only [ex]; done) | (simp only [ex]; rfl)
@[simp] theorem w_ex_par {i j : Nat} : ex T C (.par i j a b) env s = (ev T C a env s).bind fun x s => (ev T C b env s).bind fun y s => if i < env.length ∧ j < env.length ∧ i ≠ j then .ok (.nx ((env.set i (.pu x)).set j (.pu y))) s else .bad := by
  first | (simp only [ex]; done) | (simp only [ex]; rfl)
@[simp] theorem w_ex_own {i : Nat} {f : F} : ex T C (.own i f) env s = (evF T C f env s).bind fun d s => if i < env.length then .ok (.nx (env.set i (.ow d))) s else .bad := by
  first | (simp only [ex]; done) | (simp only [ex]; rfl)
@[simp] theorem w_ex_seta {m : Nat} : ex T C (.seta o m e) env s = (ev T C e env s).bind fun v s => (ev T C o env s).bind fun x s => (setA T x m v s).bind fun _ s => .ok (.nx env) s := by
  first | (simp only [ex]; done) | (simp only [ex]; rfl)
@[simp] theorem w_ex_seti  : ex T C (.seti o i e) env s = (ev T C e env s).bind fun v s => (ev T C o env s).bind fun x s => (ev T C i env s).bind fun k s => (setI x k v s).bind fun _ s => .ok (.nx env) s := by
  first | (simp only [ex]; done) | (simp only [ex]; rfl)
@[simp] theorem w_ex_aug {i : Nat} : ex T C (.aug i e) env s = match readV env i with | none => .bad | some x => (ev T C e env s).bind fun y s => (R.of (addD x y) s).bind fun z s => .ok (.nx (env.set i (.pu z))) s := by
  first | (simp only [ex]; done) | (simp only [ex]; rfl)
@[simp] theorem w_ex_mutO {x : Nat} {m : Mu} : ex T C (.mutO x m es) env s = match env[x]? with | some (.ow d) => if ownKind m d then (evs T C es env s).bind fun ds s => match ownStep m d ds with | some d' => .ok (.nx (env.set x (.ow d'))) s | none => .bad else .bad | _ => .bad := by
  first | (simp only [ex]; done) | (simp only [ex]; rfl)
@[simp] theorem w_ex_ex  : ex T C (.ex e) env s = (ev T C e env s).bind fun _ s => .ok (.nx env) s := by
  first | (simp only [ex]; done) | (simp only [ex]; rfl)
@[simp] theorem w_ex_ret  : ex T C (.ret e) env s = (ev T C e env s).bind fun d s => .ok (.rt d) s := by
  first | (simp only [ex]; done) | (simp only [ex]; rfl)
@[simp] theorem w_ex_retN  : ex T C .retN env s = .ok (.rt .non) s := by
  first | (simp only [ex]; done) | (simp only [ex]; rfl)
@[simp] theorem w_ex_frz {x : Nat} : ex T C (.frz x) env s = match env[x]? with | some (.ow d) => .ok (.nx (env.set x (.pu d))) s | _ => .bad := by
  first | (simp only [ex]; done) | (simp only [ex]; rfl)
@[simp] theorem w_ex_cnd {a b : Ss} : ex T C (.cnd c a b) env s = (asB (ev T C c env s)).bind fun k s => if k then exs T C a env s else exs T C b env s := by
  first | (simp only [ex]; done) | (simp only [ex]; rfl)
/-- a turn of a comprehension -/
def wcp (T : Tab) (C : CallF) (p : Pat) (c : Oe) (e : E) (env : Env) : D → Sto → R (List D) := fun d s => match bindPat p d (wipeE env (slotsP p)) with
  | none => .bad
  | some env' => (evC T C c env' s).bind fun b s => if b then (ev T C e env' s).bind fun x s => .ok [x] s else .ok [] s
/-- a turn of a for -/
def wfor (T : Tab) (C : CallF) (p : Pat) (b : Ss) : D → Env → Sto → R Fl := fun d env s => match bindPat p d env with
  | some env' => exs T C b env' s
  | none => .bad
@[simp] theorem w_wcp {p : Pat} {c : Oe} {d : D} : wcp T C p c e env d s = (match bindPat p d (wipeE env (slotsP p)) with
  | none => .bad
  | some env' => (evC T C c env' s).bind fun b s => if b then (ev T C e env' s).bind fun x s => .ok [x] s else .ok [] s) := rfl
@[simp] theorem w_wfor {p : Pat} {b : Ss} {d : D} : wfor T C p b d env s = (match bindPat p d env with
  | some env' => exs T C b env' s
  | none => .bad) := rfl
@[simp] theorem w_evF_cp {p : Pat} {it : I} {c : Oe} : evF T C (.cp p it c e) env s = (evI T C it env s).bind fun src s => if notOw env (slotsP p) then (noExc (compS (wcp T C p c e env) src s)).bind fun l s => if l.length ≤ SZ then .ok (.lst l) s else .bad else .bad := by
  simp only [evF]
  rfl
/-- the two walks of a comprehension with two clauses -/
def wcp2 (T : Tab) (C : CallF) (p : Pat) (q : Pat) (it2 : I) (e : E) (env : Env) : D → Sto → R (List D) := fun d s => match bindPat p d (wipeE env (slotsP p ++ slotsP q)) with
  | none => .bad
  | some env' => (evI T C it2 env' s).bind fun src2 s => compS (wcp T C q .no e env') src2 s
@[simp] theorem w_wcp2 {p q : Pat} {it2 : I} {d : D} : wcp2 T C p q it2 e env d s = (match bindPat p d (wipeE env (slotsP p ++ slotsP q)) with
  | none => .bad
  | some env' => (evI T C it2 env' s).bind fun src2 s => compS (wcp T C q .no e env') src2 s) := rfl
@[simp] theorem w_evF_cp2 {p q : Pat} {it it2 : I} : evF T C (.cp2 p it q it2 e) env s = (evI T C it env s).bind fun src s => if notOw env (slotsP p ++ slotsP q) then (noExc (compS (wcp2 T C p q it2 e env) src s)).bind fun l s => if l.length ≤ SZ then .ok (.lst l) s else .bad else .bad := by
  have e0 : ∀ env', wcp T C q .no e env' = fun d2 s => match bindPat q d2 (wipeE env' (slotsP q)) with
      | none => .bad
      | some env2 => (ev T C e env2 s).bind fun x s => .ok [x] s := by
    intro env'
    funext d2 s
    unfold wcp
    simp only [evC, R.bind, if_true]
  simp only [evF]
  unfold wcp2
  simp only [e0]
  all_goals rfl
@[simp] theorem w_ex_for {p : Pat} {it : I} {b : Ss} : ex T C (.for p it b) env s = (evI T C it env s).bind fun src s => loopS (wfor T C p b) src env s := by
  simp only [ex]
  rfl
@[simp] theorem w_ex_rais {c : Nat} : ex T C (.rais c es) env s = (evs T C es env s).bind fun ds s => match T.exf c with | some fs => if fs.length = ds.length then .exc c (fs.zip ds) s else .bad | none => .bad := by
  first | (simp only [ex]; done) | (simp only [ex]; rfl)
@[simp] theorem w_evT_of (h : ∀ i, e ≠ .var i) : evT T C e env s = ev T C e env s := by
  cases e <;> first
    | (simp only [evT]; done)
    | exact absurd rfl (h _)
@[simp] theorem loopS_val {f : D → Env → Sto → R Fl} {l : List D} : loopS f (.val l) env s = loopV f l env s := rfl
@[simp] theorem compS_val {f : D → Sto → R (List D)} {l : List D} : compS f (.val l) s = compV f l s := rfl
theorem cnd_true {x y : Ss} {s' : Sto} (h : ev T C c env s = .ok (.bl true) s') : ex T C (.cnd c x y) env s = exs T C x env s' := by
  rw [w_ex_cnd, h]
  simp
theorem cnd_false {x y : Ss} {s' : Sto} (h : ev T C c env s = .ok (.bl false) s') : ex T C (.cnd c x y) env s = exs T C y env s' := by
  rw [w_ex_cnd, h]
  simp
end
end CF
/-! CFWp2 -/
/-! The operations on values, by rows for simp. -/
namespace CF
section
variable {T : Tab} {C : CallF} {env : Env} {s st : Sto}
@[simp] theorem w_readV {i : Nat} : readV env i = (match env[i]? with | some (.pu d) => some d | _ => none) := rfl
@[simp] theorem w_readT {i : Nat} : readT env i = (match env[i]? with | some (.pu d) => some d | some (.ow d) => some d | _ => none) := rfl
@[simp] theorem w_argEnv {n : Nat} {l : List D} : argEnv n l = l.map .pu ++ List.replicate (n - l.length) .emp := rfl
@[simp] theorem w_bindNm {i : Nat} {d : D} : bindPat (.nm i) d env = if i < env.length then some (env.set i (.pu d)) else none := rfl
@[simp] theorem w_bindTp {l : List Nat} {ds : List D} : bindPat (.tp l) (.tup ds) env = if l.length = ds.length ∧ l.all (· < env.length) then some ((l.zip ds).foldl (fun e q => e.set q.1 (.pu q.2)) env) else none := rfl
@[simp] theorem w_slotsN {i : Nat} : slotsP (.nm i) = [i] := rfl
@[simp] theorem w_slotsT {l : List Nat} : slotsP (.tp l) = l := rfl
@[simp] theorem w_wipe0 : wipeE env [] = env := rfl
@[simp] theorem w_wipe1 {v : Nat} {l : List Nat} : wipeE env (v :: l) = (wipeE env l).set v .emp := rfl
@[simp] theorem w_notOw0 : notOw env [] = true := rfl
@[simp] theorem w_notOw1 {v : Nat} {l : List Nat} : notOw env (v :: l) = ((match env[v]? with | some s => !isOwS s | none => false) && notOw env l) := rfl
@[simp] theorem w_isOw1 : isOwS .emp = false := rfl
@[simp] theorem w_isOw2 {d : D} : isOwS (.pu d) = false := rfl
@[simp] theorem w_isOw3 {d : D} : isOwS (.ow d) = true := rfl
/-! ### what is walked -/
@[simp] theorem w_srcL {l : List D} : srcOf st (.lst l) = some (.val l) := rfl
@[simp] theorem w_srcT {l : List D} : srcOf st (.tup l) = some (.val l) := rfl
@[simp] theorem w_srcS {l : List Int} : srcOf st (.scr l) = some (.val (l.map .int)) := rfl
@[simp] theorem w_srcX {x : List Nat} : srcOf st (.str x) = if x.length ≤ SZ then some (.val (x.map fun c => .str [c])) else none := rfl
@[simp] theorem w_srR1 {l : List D} : srcR (.lst l) st = R.of (srcOf st (.lst l)) st := rfl
@[simp] theorem w_srR2 {l : List D} : srcR (.tup l) st = R.of (srcOf st (.tup l)) st := rfl
@[simp] theorem w_srR3 {l : List Int} : srcR (.scr l) st = R.of (srcOf st (.scr l)) st := rfl
@[simp] theorem w_srR4 {x : List Nat} : srcR (.str x) st = R.of (srcOf st (.str x)) st := rfl
@[simp] theorem w_srR5 {l : List (D × D)} : srcR (.dct l) st = R.of (srcOf st (.dct l)) st := rfl
theorem srcR_lst {n : Nat} {l : List D} (h : lstAt st n = some l) : srcR (.ref n) st = .ok (.at n l.length) st := by
  have e : dctAt st n = none := by
    unfold lstAt at h
    unfold dctAt
    split at h
    · rename_i e; rw [e]
    · cases h
  unfold srcR
  simp only [e]
  show R.of ((lstAt st n).map fun l => Src.at n l.length) st = _
  rw [h]
  rfl
@[simp] theorem w_srcR {n : Nat} : srcOf st (.ref n) = (lstAt st n).map fun l => .at n l.length := rfl
@[simp] theorem w_itL {l : List D} : itemsOf st (.lst l) = some l := rfl
@[simp] theorem w_itT {l : List D} : itemsOf st (.tup l) = some l := rfl
@[simp] theorem w_itR {n : Nat} : itemsOf st (.ref n) = lstAt st n := rfl
@[simp] theorem w_loL {l : List D} : listOf st (.lst l) = some l := rfl
/-! ### equality -/
@[simp] theorem w_lay1 {n : Nat} : layN n .non = true := by cases n <;> rfl
@[simp] theorem w_lay2 {n : Nat} {b : Bool} : layN n (.bl b) = true := by cases n <;> rfl
@[simp] theorem w_lay3 {n : Nat} {i : Int} : layN n (.int i) = true := by cases n <;> rfl
@[simp] theorem w_lay4 {n : Nat} {x : List Nat} : layN n (.str x) = true := by cases n <;> rfl
@[simp] theorem w_lay5 {n : Nat} {l : List D} : layN (n + 1) (.tup l) = layNs n l := rfl
@[simp] theorem w_lay6 {n : Nat} {l : List D} : layN (n + 1) (.lst l) = layNs n l := rfl
@[simp] theorem w_lays0 {n : Nat} : layNs n [] = true := by cases n <;> rfl
@[simp] theorem w_lays1 {n : Nat} {d : D} {l : List D} : layNs n (d :: l) = (layN n d && layNs n l) := by cases n <;> rfl
theorem lays_all {n : Nat} : ∀ {l : List D}, layNs n l = l.all (layN n)
  | [] => by simp
  | d :: r => by simp [lays_all (l := r)]
@[simp] theorem w_eqI {i j : Int} : eqD (.int i) (.int j) = (i == j) := rfl
@[simp] theorem w_eqS {x y : List Nat} : eqD (.str x) (.str y) = (x == y) := rfl
@[simp] theorem w_eqB {x y : Bool} : eqD (.bl x) (.bl y) = (x == y) := rfl
@[simp] theorem w_eqN : eqD .non .non = true := rfl
@[simp] theorem w_eqT {x y : List D} : eqD (.tup x) (.tup y) = eqDs x y := rfl
@[simp] theorem w_eqL {x y : List D} : eqD (.lst x) (.lst y) = eqDs x y := rfl
@[simp] theorem w_eqs0 : eqDs [] [] = true := rfl
@[simp] theorem w_eqs1 {x y : D} {l m : List D} : eqDs (x :: l) (y :: m) = (eqD x y && eqDs l m) := rfl
@[simp] theorem w_eqs2 {x : D} {l : List D} : eqDs (x :: l) [] = false := rfl
@[simp] theorem w_eqs3 {x : D} {l : List D} : eqDs [] (x :: l) = false := rfl
@[simp] theorem w_opEqS {x y : List Nat} : opEq (.str x) (.str y) = some (x == y) := rfl
@[simp] theorem w_opEqI {i j : Int} : opEq (.int i) (.int j) = some (i == j) := rfl
@[simp] theorem w_opEqB {x y : Bool} : opEq (.bl x) (.bl y) = some (x == y) := rfl
@[simp] theorem w_opEqT {x y : List D} : opEq (.tup x) (.tup y) = if layN LV (.tup x) && layN LV (.tup y) then some (eqDs x y) else none := rfl
@[simp] theorem w_opEqL1 {l : List D} : opEq (.lst l) (.lst []) = some l.isEmpty := by cases l <;> rfl
@[simp] theorem w_opEqL2 {l : List D} : opEq (.lst []) (.lst l) = some l.isEmpty := rfl
@[simp] theorem w_opEqL3 {x y : D} {l m : List D} : opEq (.lst (x :: l)) (.lst (y :: m)) = if layN LV (.lst (x :: l)) && layN LV (.lst (y :: m)) then some (eqDs (x :: l) (y :: m)) else none := rfl
/-! ### comparison -/
@[simp] theorem w_cEq {a b : D} : opCmp st .eq a b = opEq a b := by cases a <;> cases b <;> rfl
@[simp] theorem w_cNe {a b : D} : opCmp st .ne a b = (opEq a b).map (!·) := by cases a <;> cases b <;> rfl
@[simp] theorem w_cLt {i j : Int} : opCmp st .lt (.int i) (.int j) = some (decide (i < j)) := rfl
@[simp] theorem w_cLe {i j : Int} : opCmp st .le (.int i) (.int j) = some (decide (i ≤ j)) := rfl
@[simp] theorem w_cGt {i j : Int} : opCmp st .gt (.int i) (.int j) = some (decide (j < i)) := rfl
@[simp] theorem w_cGe {i j : Int} : opCmp st .ge (.int i) (.int j) = some (decide (j ≤ i)) := rfl
@[simp] theorem w_cIs {a : D} : opCmp st .isN a .non = some (isNon a) := by cases a <;> rfl
@[simp] theorem w_cNo {a : D} : opCmp st .notN a .non = some (!isNon a) := by cases a <;> rfl
@[simp] theorem w_cIn {a b : D} : opCmp st .inn a b = opIn st a b := by cases a <;> cases b <;> rfl
@[simp] theorem w_cNi {a b : D} : opCmp st .nin a b = (opIn st a b).map (!·) := by cases a <;> cases b <;> rfl
@[simp] theorem w_inT {x : D} {l : List D} : opIn st x (.tup l) = if layN LV x && layNs LV l then some (memD x l) else none := by cases x <;> rfl
@[simp] theorem w_inL {x : D} {l : List D} : opIn st x (.lst l) = if layN LV x && layNs LV l then some (memD x l) else none := by cases x <;> rfl
@[simp] theorem w_inS {c : Nat} {y : List Nat} : opIn st (.str [c]) (.str y) = some (y.contains c) := rfl
theorem w_cmp0 {op : Cm} {a b : D} (h : isIns st a = false) (h2 : refE st op a b = none) : cmpR T C op a b st = (R.of (opCmp st op a b) st).bind fun b s => .ok (.bl b) s := by
  unfold cmpR
  rw [h, if_neg (fun z => by cases z.2), h2]
@[simp] theorem w_cmpI {op : Cm} {i : Int} {b : D} : cmpR T C op (.int i) b st = (R.of (opCmp st op (.int i) b) st).bind fun b s => .ok (.bl b) s := w_cmp0 rfl rfl
@[simp] theorem w_cmpS {op : Cm} {x : List Nat} {b : D} : cmpR T C op (.str x) b st = (R.of (opCmp st op (.str x) b) st).bind fun b s => .ok (.bl b) s := w_cmp0 rfl rfl
@[simp] theorem w_cmpB {op : Cm} {x : Bool} {b : D} : cmpR T C op (.bl x) b st = (R.of (opCmp st op (.bl x) b) st).bind fun b s => .ok (.bl b) s := w_cmp0 rfl rfl
@[simp] theorem w_cmpN {op : Cm} {b : D} : cmpR T C op .non b st = (R.of (opCmp st op .non b) st).bind fun b s => .ok (.bl b) s := w_cmp0 rfl rfl
@[simp] theorem w_cmpT {op : Cm} {x : List D} {b : D} : cmpR T C op (.tup x) b st = (R.of (opCmp st op (.tup x) b) st).bind fun b s => .ok (.bl b) s := w_cmp0 rfl rfl
@[simp] theorem w_cmpL {op : Cm} {x : List D} {b : D} : cmpR T C op (.lst x) b st = (R.of (opCmp st op (.lst x) b) st).bind fun b s => .ok (.bl b) s := w_cmp0 rfl rfl
@[simp] theorem w_cmpD {op : Cm} {x : List (D × D)} {b : D} : cmpR T C op (.dct x) b st = (R.of (opCmp st op (.dct x) b) st).bind fun b s => .ok (.bl b) s := w_cmp0 rfl rfl
theorem w_cmpR {op : Cm} {n : Nat} {b : D} (h : op ≠ .eq) : cmpR T C op (.ref n) b st = (R.of (opCmp st op (.ref n) b) st).bind fun b s => .ok (.bl b) s := by
  have h2 : refE st op (.ref n) b = none := by
    unfold refE
    split <;> first
      | rw [if_neg h]
      | rfl
  unfold cmpR
  rw [if_neg fun z => h z.1, h2]
theorem ins_of_dct {n : Nat} {l : List (D × D)} (h : dctAt st n = some l) : insAt st n = none := by
  unfold dctAt at h
  unfold insAt
  split at h
  · rename_i e; rw [e]
  · rename_i e; rw [e]
  · cases h
theorem w_cmpE0 {n : Nat} {l : List (D × D)} (h : dctAt st n = some l) : cmpR T C .eq (.ref n) (.dct []) st = .ok (.bl l.isEmpty) st := by
  have hi := ins_of_dct h
  unfold cmpR
  rw [if_neg (fun z => by have : (insAt st n).isSome = true := z.2; rw [hi] at this; cases this)]
  unfold refE
  simp only [if_true, h, Option.map_some]
theorem w_cmpE2 {n m : Nat} {l k : List (D × D)} (h : dctAt st n = some l) (h2 : dctAt st m = some k) (ol : eqdOk l = true) (ok : eqdOk k = true) : cmpR T C .eq (.ref n) (.ref m) st = .ok (.bl (eqDct l k)) st := by
  have hi := ins_of_dct h
  unfold cmpR
  rw [if_neg (fun z => by have : (insAt st n).isSome = true := z.2; rw [hi] at this; cases this)]
  unfold refE
  simp only [if_true, h, h2, Option.bind_some, ol, ok, Bool.and_self]
theorem w_cmpE {n : Nat} {l : List D} (h : lstAt st n = some l) : cmpR T C .eq (.ref n) (.lst []) st = .ok (.bl l.isEmpty) st := by
  have hi : insAt st n = none := by
    unfold lstAt at h
    unfold insAt
    split at h
    · rename_i e; rw [e]
    · cases h
  unfold cmpR
  rw [if_neg (fun z => by have : (insAt st n).isSome = true := z.2; rw [hi] at this; cases this)]
  unfold refE
  simp only [if_true, h, Option.map_some]
@[simp] theorem w_cmpR1 {n : Nat} : cmpR T C .isN (.ref n) .non st = .ok (.bl false) st := rfl
@[simp] theorem w_cmpR2 {n : Nat} : cmpR T C .notN (.ref n) .non st = .ok (.bl true) st := rfl
@[simp] theorem w_non1 : isNon .non = true := rfl
@[simp] theorem w_non2 {i : Int} : isNon (.int i) = false := rfl
@[simp] theorem w_non3 {x : List Nat} : isNon (.str x) = false := rfl
@[simp] theorem w_non4 {x : List D} : isNon (.tup x) = false := rfl
@[simp] theorem w_non5 {x : List D} : isNon (.lst x) = false := rfl
@[simp] theorem w_non6 {b : Bool} : isNon (.bl b) = false := rfl
@[simp] theorem w_non7 {l : List (D × D)} : isNon (.dct l) = false := rfl
/-! ### arithmetic -/
@[simp] theorem w_addI {i j : Int} : opBin .add (.int i) (.int j) = some (.int (i + j)) := rfl
@[simp] theorem w_addT {x y : List D} : opBin .add (.tup x) (.tup y) = if x.length + y.length ≤ SZ then some (.tup (x ++ y)) else none := rfl
@[simp] theorem w_addL {x y : List D} : opBin .add (.lst x) (.lst y) = if x.length + y.length ≤ SZ then some (.lst (x ++ y)) else none := rfl
@[simp] theorem w_addS {x y : List Nat} : opBin .add (.str x) (.str y) = if x.length + y.length ≤ SZ then some (.str (x ++ y)) else none := rfl
@[simp] theorem w_subI {i j : Int} : opBin .sub (.int i) (.int j) = some (.int (i - j)) := rfl
@[simp] theorem w_mulI {i j : Int} : opBin .mul (.int i) (.int j) = (mulI i j).map .int := rfl
@[simp] theorem w_mulL {x : List D} {k : Int} : opBin .mul (.lst x) (.int k) = if x.length ≤ 1000 ∧ -1000 ≤ k ∧ k ≤ 1000 then some (.lst (repL x k)) else none := rfl
@[simp] theorem w_mulS {x : List Nat} {k : Int} : opBin .mul (.str x) (.int k) = if x.length ≤ 1000 ∧ -1000 ≤ k ∧ k ≤ 1000 then some (.str (repL x k)) else none := rfl
@[simp] theorem w_mulT {x : List D} {k : Int} : opBin .mul (.tup x) (.int k) = if x.length ≤ 1000 ∧ -1000 ≤ k ∧ k ≤ 1000 then some (.tup (repL x k)) else none := rfl
@[simp] theorem w_modI {i j : Int} : opBin .mod (.int i) (.int j) = (modI i j).map .int := rfl
@[simp] theorem w_divI {i j : Int} : opBin .fdiv (.int i) (.int j) = (divI i j).map .int := rfl
/-! ### subscripts -/
@[simp] theorem w_subT {l : List D} {i : Int} : opSub st (.tup l) (.int i) = at_ l i := rfl
@[simp] theorem w_subL {l : List D} {i : Int} : opSub st (.lst l) (.int i) = at_ l i := rfl
@[simp] theorem w_subD {d : List (D × D)} {k : D} : opSub st (.dct d) k = if keyOk d k then findK k d else none := rfl
theorem at_0 {α : Type} {x : α} {l : List α} : at_ (x :: l) 0 = some x := by
  unfold at_ ix
  rw [if_pos (by decide), if_pos (by simp)]
  rfl
@[simp] theorem at_nat {α : Type} {l : List α} {i : Nat} : at_ l (i : Int) = l[i]? := by
  unfold at_ ix
  rw [if_pos (by omega)]
  by_cases h : i < l.length
  · rw [if_pos (by omega)]
    simp
  · rw [if_neg (by omega), List.getElem?_eq_none (by omega)]
    rfl
@[simp] theorem at_lit0 {α : Type} {l : List α} : at_ l (0 : Int) = l[0]? := at_nat (i := 0)
@[simp] theorem at_lit2 {α : Type} {l : List α} : at_ l (2 : Int) = l[2]? := at_nat (i := 2)
@[simp] theorem at_lit3 {α : Type} {l : List α} : at_ l (3 : Int) = l[3]? := at_nat (i := 3)
@[simp] theorem at_lit4 {α : Type} {l : List α} : at_ l (4 : Int) = l[4]? := at_nat (i := 4)
@[simp] theorem at_lit1 {α : Type} {l : List α} : at_ l (1 : Int) = l[1]? := at_nat (i := 1)
theorem at_back {α : Type} {l : List α} {k : Nat} (h0 : 0 < k) (h : k ≤ l.length) : at_ l (-(k : Int)) = l[l.length - k]? := by
  unfold at_ ix
  rw [if_neg (by omega), if_pos (by omega)]
  simp only [Option.bind_some]
  congr 1
  omega
@[simp] theorem w_slcT {x : List D} {lo hi : Option D} {l h : Option Int} (h1 : ofI lo = some l) (h2 : ofI hi = some h) : opSlc st (.tup x) lo hi = some (.tup (cut x l h)) := by
  unfold opSlc
  rw [h1, h2]
@[simp] theorem w_slcL {x : List D} {lo hi : Option D} {l h : Option Int} (h1 : ofI lo = some l) (h2 : ofI hi = some h) : opSlc st (.lst x) lo hi = some (.lst (cut x l h)) := by
  unfold opSlc
  rw [h1, h2]
@[simp] theorem w_ofI0 : ofI none = some none := rfl
@[simp] theorem w_ofI1 {i : Int} : ofI (some (.int i)) = some (some i) := rfl
theorem cut_from {α : Type} {l : List α} {k : Nat} : cut l (some (k : Int)) none = l.drop k := by
  unfold cut cutI
  simp only []
  rw [if_neg (by omega)]
  by_cases h : k ≤ l.length
  · rw [Int.toNat_natCast, Nat.min_eq_left h]
    rw [List.take_of_length_le]
    rw [List.length_drop]
    exact Nat.le_refl _
  · rw [Int.toNat_natCast, Nat.min_eq_right (by omega), List.drop_eq_nil_of_le (as := l) (i := k) (by omega)]
    simp
theorem cut_to_back {α : Type} {l : List α} {k : Nat} (h0 : 0 < k) : cut l none (some (-(k : Int))) = l.take (l.length - k) := by
  unfold cut cutI
  simp only []
  rw [if_pos (by omega)]
  simp only [List.drop_zero, Nat.sub_zero]
  congr 1
  omega
theorem cut_from_back {α : Type} {l : List α} {k : Nat} (h0 : 0 < k) : cut l (some (-(k : Int))) none = l.drop (l.length - k) := by
  unfold cut cutI
  simp only []
  rw [if_pos (by omega)]
  rw [show (-(k : Int) + (l.length : Int)).toNat = l.length - k by omega]
  rw [List.take_of_length_le]
  rw [List.length_drop]
  omega
@[simp] theorem cut_f1 {α : Type} {l : List α} : cut l (some 1) none = l.drop 1 := cut_from (k := 1)
@[simp] theorem cut_f2 {α : Type} {l : List α} : cut l (some 2) none = l.drop 2 := cut_from (k := 2)
@[simp] theorem cut_b1 {α : Type} {l : List α} : cut l none (some (-1)) = l.take (l.length - 1) := cut_to_back (k := 1) (by decide)
@[simp] theorem cut_b2 {α : Type} {l : List α} : cut l none (some (-2)) = l.take (l.length - 2) := cut_to_back (k := 2) (by decide)
@[simp] theorem cut_g1 {α : Type} {l : List α} : cut l (some (-1)) none = l.drop (l.length - 1) := cut_from_back (k := 1) (by decide)
/-! ### an own list's methods -/
@[simp] theorem w_okL1 {l : List D} : ownKind .append (.lst l) = true := rfl
@[simp] theorem w_okL2 {l : List D} : ownKind .extend (.lst l) = true := rfl
@[simp] theorem w_osA {l : List D} {x : D} : ownStep .append (.lst l) [x] = if l.length < SZ then some (.lst (l ++ [x])) else none := by
  show (if l.length < SZ then some (D.non, l ++ [x]) else none).map (fun p => D.lst p.2) = _
  split <;> rfl
@[simp] theorem w_osE {l m : List D} : ownStep .extend (.lst l) [.lst m] = if l.length + m.length ≤ SZ then some (.lst (l ++ m)) else none := by
  show (if l.length + m.length ≤ SZ then some (D.non, l ++ m) else none).map (fun p => D.lst p.2) = _
  split <;> rfl
/-! ### objects -/
theorem w_att {n a c : Nat} {fs : List (Nat × D)} (h : insAt st n = some (c, fs)) (h2 : T.att c a = some none) : attR T C a (.ref n) st = R.of (fieldOf fs a) st := by
  unfold attR
  simp only [h, h2]
theorem w_meth {n m c f : Nat} {fs : List (Nat × D)} (h : insAt st n = some (c, fs)) (h2 : T.meth c m = some f) : methF T m (.ref n) st = some f := by
  unfold methF
  simp only [h, h2]
theorem insAt_app {n c : Nat} {fs : List (Nat × D)} {e : Sto} (h : insAt st n = some (c, fs)) : insAt (st ++ e) n = some (c, fs) := by
  unfold insAt at h ⊢
  split at h
  · rename_i c' fs' hn
    rw [List.getElem?_append_left (List.getElem?_eq_some_iff.mp hn).1, hn]
    exact h
  · cases h
theorem insAt_new {c : Nat} {fs : List (Nat × D)} : insAt (st ++ [.ins c fs]) st.length = some (c, fs) := by
  unfold insAt
  rw [List.getElem?_append_right (Nat.le_refl _), Nat.sub_self]
  rfl
theorem set_at {o o' : SO} {r : Sto} : (st ++ o :: r).set st.length o' = st ++ o' :: r := by
  induction st with
  | nil => rfl
  | cons a l ih => rw [List.cons_append, List.length_cons, List.set_cons_succ, ih]; rfl
theorem insAt_at {c : Nat} {fs : List (Nat × D)} {r : Sto} : insAt (st ++ .ins c fs :: r) st.length = some (c, fs) := by
  unfold insAt
  rw [List.getElem?_append_right (Nat.le_refl _), Nat.sub_self]
  rfl
theorem seta_at {c a : Nat} {fs : List (Nat × D)} {r : Sto} {v : D} (h : T.att c a = some none) (hl : fs.length < 100) : setA T (.ref st.length) a v (st ++ .ins c fs :: r) = .ok () (st ++ .ins c (putField fs a v) :: r) := by
  unfold setA
  simp only [insAt_at]
  rw [if_pos ⟨h, hl⟩, set_at]
/-! ### the first of the store -/
@[simp] theorem len_r0 {l : List D} {r : Sto} : prmR T C .len [.ref 0] (.lst l :: r) = .ok (.int l.length) (.lst l :: r) := rfl
@[simp] theorem sub_r0 {l : List D} {r : Sto} {i : Int} : opSub (.lst l :: r) (.ref 0) (.int i) = at_ l i := rfl
@[simp] theorem set_r0 {l : List D} {r : Sto} {i : Int} {v : D} : setI (.ref 0) (.int i) v (.lst l :: r) = (match ix l.length i with | some j => .ok () (.lst (l.set j v) :: r) | none => .bad) := rfl
@[simp] theorem mok_r0 {l : List D} {r : Sto} {m : Mu} : mutOk m (.ref 0) (.lst l :: r) = isLm m := rfl
@[simp] theorem mut_r0 {l : List D} {r : Sto} {m : Mu} {ds : List D} : mutR m (.ref 0) ds (.lst l :: r) = (match muL m l ds with | some (v, l') => .ok v (.lst l' :: r) | none => .bad) := rfl
/-! ### types -/
@[simp] theorem w_isi1 {t : Ty} (h : ∀ c, t ≠ .own c) : isinst T st .non t = some false := by cases t <;> first | rfl | exact absurd rfl (h _)
@[simp] theorem w_isi2 {t : Ty} {b : Bool} (h : ∀ c, t ≠ .own c) : isinst T st (.bl b) t = some (decide (t = .bool ∨ t = .int)) := by cases t <;> first | rfl | exact absurd rfl (h _)
@[simp] theorem w_isi3 {t : Ty} {i : Int} (h : ∀ c, t ≠ .own c) : isinst T st (.int i) t = some (decide (t = .int)) := by cases t <;> first | rfl | exact absurd rfl (h _)
@[simp] theorem w_isi4 {t : Ty} {x : List Nat} (h : ∀ c, t ≠ .own c) : isinst T st (.str x) t = some (decide (t = .str)) := by cases t <;> first | rfl | exact absurd rfl (h _)
@[simp] theorem w_isi5 {t : Ty} {l : List D} (h : ∀ c, t ≠ .own c) : isinst T st (.tup l) t = some (decide (t = .tuple)) := by cases t <;> first | rfl | exact absurd rfl (h _)
@[simp] theorem w_isi6 {t : Ty} {l : List D} (h : ∀ c, t ≠ .own c) : isinst T st (.lst l) t = some (decide (t = .list)) := by cases t <;> first | rfl | exact absurd rfl (h _)
@[simp] theorem w_isi7 {t : Ty} {l : List (D × D)} (h : ∀ c, t ≠ .own c) : isinst T st (.dct l) t = some (decide (t = .dict)) := by cases t <;> first | rfl | exact absurd rfl (h _)
/-! ### built-in functions -/
@[simp] theorem w_prm {p : Pr} {ds : List D} (h : p ≠ .len) : prmR T C p ds st = R.of (prim st p ds) st := by
  cases p <;> first
    | rfl
    | exact absurd rfl h
    | (rcases ds with _ | ⟨d, _ | ⟨e, r⟩⟩ <;> rfl)
@[simp] theorem w_lenT {l : List D} : prmR T C .len [.tup l] st = .ok (.int l.length) st := rfl
@[simp] theorem w_lenL {l : List D} : prmR T C .len [.lst l] st = .ok (.int l.length) st := rfl
@[simp] theorem w_lenS {x : List Nat} : prmR T C .len [.str x] st = if x.length ≤ SZ then .ok (.int x.length) st else .bad := by
  show R.of (if x.length ≤ SZ then some (D.int x.length) else none) st = _
  split <;> rfl
@[simp] theorem w_pall {x : D} : prim st .all [x] = (listOf st x).bind fun l => (blsOf l).map fun bs => .bl (bs.all id) := rfl
@[simp] theorem w_pany {x : D} : prim st .any [x] = (listOf st x).bind fun l => (blsOf l).map fun bs => .bl (bs.any id) := rfl
@[simp] theorem w_ptup {x : D} : prim st .tuple [x] = (itemsOf st x).map .tup := rfl
@[simp] theorem w_plst {l : List D} : prim st .list [.lst l] = some (.lst l) := rfl
@[simp] theorem w_plstT {l : List D} : prim st .list [.tup l] = some (.lst l) := rfl
@[simp] theorem w_pabs {i : Int} : prim st .abs [.int i] = some (.int (if i < 0 then -i else i)) := rfl
@[simp] theorem w_pint {i : Int} : prim st .int [.int i] = some (.int i) := rfl
@[simp] theorem w_pstr {i : Int} : prim st .str [.int i] = if 0 ≤ i ∧ i.natAbs < 10 ^ 100 then some (.str (natStr i.natAbs)) else none := rfl
theorem blsOf_map {α : Type} (p : α → Bool) : ∀ l : List α, blsOf (l.map fun a => .bl (p a)) = some (l.map p)
  | [] => rfl
  | a :: r => by simp only [List.map_cons, blsOf, blsOf_map p r, Option.map_some]
theorem blsOf_flat {α : Type} (p : α → Bool) (l : List α) : blsOf (l.flatMap fun a => [.bl (p a)]) = some (l.map p) := by
  rw [← blsOf_map p l]
  congr 1
  induction l with
  | nil => rfl
  | cons a r ih => rw [List.flatMap_cons, List.map_cons, ih]; rfl
@[simp] theorem w_okiteB {p : Prop} [Decidable p] {a b : Bool} : (if p then R.ok a s else R.ok b s) = R.ok (if p then a else b) s := by split <;> rfl
@[simp] theorem w_okiteD {p : Prop} [Decidable p] {a b : Bool} : (if p then R.ok (D.bl a) s else R.ok (D.bl b) s) = R.ok (D.bl (if p then a else b)) s := by split <;> rfl
@[simp] theorem szle0 : 0 ≤ SZ := by decide
@[simp] theorem szle1 : 1 ≤ SZ := by decide
@[simp] theorem szle2 : 2 ≤ SZ := by decide
@[simp] theorem szle3 : 3 ≤ SZ := by decide
@[simp] theorem szle4 : 4 ≤ SZ := by decide
@[simp] theorem szle5 : 5 ≤ SZ := by decide
@[simp] theorem szle6 : 6 ≤ SZ := by decide
@[simp] theorem szle7 : 7 ≤ SZ := by decide
@[simp] theorem szle8 : 8 ≤ SZ := by decide
@[simp] theorem szle9 : 9 ≤ SZ := by decide
@[simp] theorem szle10 : 10 ≤ SZ := by decide
@[simp] theorem szle11 : 11 ≤ SZ := by decide
@[simp] theorem szle12 : 12 ≤ SZ := by decide
theorem SZ_le {n : Nat} (h : n ≤ 16000000) : n ≤ SZ := h
end
end CF
/-! H2 -/
set_option maxHeartbeats 1000000
/-! k13: the functions that are handed the exception. -/
namespace CFP
open PySem PySem.Spec PyProof.Rows L2 L2H HotX CF
/-- e stands in slot i -/
def hdAt (env : CF.Env) (i : Nat) (a : Addr) : Bool := match env[i]? with
  | some (.hd b _ _) => b == a
  | _ => false
theorem hdAt_of {env : CF.Env} {i : Nat} {a : Addr} (h : hdAt env i a = true) : ∃ c fs, env[i]? = some (.hd a c fs) := by
  unfold hdAt at h
  split at h
  · rename_i b c fs e
    rw [eq_of_beq h] at e
    exact ⟨c, fs, e⟩
  · cases h
/-- _law_field -/
def fldD (k : Int) (fs : List (Nat × CF.D)) : Option CF.D := if k < 7 then some .non else if k = 7 then fieldOf fs 3 else fieldOf fs 24
def fld2 (env : CF.Env) (fs : List (Nat × CF.D)) : Option CF.D := match env[2]? with
  | some (CF.Slot.pu (CF.D.int k)) => fldD k fs
  | _ => none
abbrev clsD (c : Nat) : List CF.D := ordC.map fun h => .bl (h == c)
/-- the hand expressions: isinstance(e, ValueError), the two calls, the two fields, isinstance(e, C) -/
def hxF (a : Addr) (c : Nat) (fs : List (Nat × CF.D)) (j : Nat) (env : CF.Env) (st : Sto) : Option CF.D :=
  if j = 1 then (if hdAt env 5 a then some (.bl true) else none)
  else if j = 2 then (if hdAt env 5 a then some (.lst (clsD c)) else none)
  else if j = 3 then (if hdAt env 5 a then fld2 env fs else none)
  else if j = 4 then (if hdAt env 1 a then fieldOf fs 3 else none)
  else if j = 5 then (if hdAt env 1 a then fieldOf fs 24 else none)
  else (if hdAt env 0 a then some (.bl (j == c + 6)) else none)
section
variable {a : Addr} {c : Nat} {fs : List (Nat × CF.D)} {env : CF.Env} {st : Sto}
theorem hx1 : hxF a c fs 1 env st = if hdAt env 5 a then some (.bl true) else none := rfl
theorem hx2 : hxF a c fs 2 env st = if hdAt env 5 a then some (.lst (clsD c)) else none := rfl
theorem hx3 : hxF a c fs 3 env st = if hdAt env 5 a then fld2 env fs else none := rfl
theorem hx4 : hxF a c fs 4 env st = if hdAt env 1 a then fieldOf fs 3 else none := rfl
theorem hx5 : hxF a c fs 5 env st = if hdAt env 1 a then fieldOf fs 24 else none := rfl
theorem hx6 {h : Nat} : hxF a c fs (h + 6) env st = if hdAt env 0 a then some (.bl (h == c)) else none := by
  unfold hxF
  rw [if_neg (by omega), if_neg (by omega), if_neg (by omega), if_neg (by omega), if_neg (by omega)]
  rw [show (h + 6 == c + 6) = (h == c) from by by_cases e : h = c <;> simp [e]]
end
abbrev namesL : List (Str × Nat) := [("BadQuestions", 1), ("BadLists", 2), ("BadCase", 4), ("UnknownReference", 12), ("UnknownMark", 13), ("NothingAsked", 15), ("BadAnswer", 16), ("BadBody", 3), ("InvalidLine", 18)]
/-- what is asked of the world -/
structure HwOk (W : Wld) (fC fF : Addr) (dC dF : FuncData) : Prop where
  wok : WOk { W with hs := fun _ => none }
  mks : NmsOk2 nms0 { W with hs := fun _ => none }
  ec : ∀ c C, W.xls c = some C → ExcC W.K C
  ki : ∀ c C h Ch, W.xls c = some C → W.xls h = some Ch → h ∈ ordC → PySem.W.kitOne W.K (.ref C) (.ref Ch) = some (h == c)
  kv : ∀ c C, W.xls c = some C → PySem.W.kitOne W.K (.ref C) (.type "ValueError") = some true
  nm : ∀ p ∈ namesL, ∃ Ch, W.xls p.2 = some Ch ∧ W.mg p.1 = some (.ref Ch)
  noE : ∀ c, W.T.eqm c = none
  noL : ∀ c, W.T.lenm c = none
  bi : W.mg "isinstance" = none
  bv : W.mg "ValueError" = none
  an3 : W.an 3 = "index"
  an24 : W.an 24 = "line"
  fnC : L2.Fun W.K "_law_classes" "_law_classes" zsC fC dC
  fnF : L2.Fun W.K "_law_field" "_law_field" zsF fF dF
  mC : W.mg "_law_classes" = some (.ref fC)
  mF : W.mg "_law_field" = some (.ref fF)
theorem _root_.CF.NmsOk2.hxw {M : Nms} {W : Wld} {f : Nat → CF.Env → Sto → Option CF.D} (m : NmsOk2 M { W with hs := fun _ => none }) : NmsOk2 M (W.hxw f) where
  gn := m.gn
  isG := m.isG
  cn := m.cn
  mn := m.mn
  an := m.an
  gc := m.gc
  kd := m.kd
  bi := m.bi
  isC := m.isC
  clsC := m.clsC
  hasInit := m.hasInit
  exf := m.exf
  hs := m.hs
  only := m.only
theorem wokH {W : Wld} {f : Nat → CF.Env → Sto → Option CF.D} (w : WOk { W with hs := fun _ => none }) : WOk (W.hxw f) := WOk.hxw (W := { W with hs := fun _ => none }) (f := f) w
section
variable {W : Wld} {fC fF : Addr} {dC dF : FuncData} {X : Cx} {a C : Addr} {oe : Obj} {d : Option Addr} {c : Nat} {fs : List (Nat × CF.D)} {g0 : Gh} {H0 : Hp} {n : Nat} {en : Str} {p1 p2 p3 pos : Pos}
/-- what is not served is never come to -/
theorem pe_bad {W : Wld} {m : CF.Env → Sto → R CF.D} {e : Expr} {Wx : WX} (h : ∀ env st, m env st = .bad) : PE X e (tM W g0 H0 Wx m) := ⟨fun pins s σ H Q I ⟨env, st, g, si, af⟩ => by
  rw [h] at af
  exact af.elim⟩
theorem lookE {W : Wld} {T : Tab} {Cf : CallF} {e : E} {x : Expr} {Wx : WX} (h : PE X x (tM W g0 H0 Wx (ev T Cf e))) (he : ∀ env s, evT T Cf e env s = ev T Cf e env s) : PE X x (tMT W g0 H0 Wx (evT T Cf e)) := by
  rw [show evT T Cf e = ev T Cf e from funext fun env => funext fun s => he env s]
  exact pe_look h
/-- the handled exception's facts -/
structure HE (W : Wld) (X : Cx) (a : Addr) (oe : Obj) (C : Addr) (d : Option Addr) (c : Nat) (fs : List (Nat × CF.D)) (g0 : Gh) (H0 : Hp) : Prop where
  xw : XW X W
  hp : (a, oe) ∈ X.pn
  hC : W.xls c = some C
  hz : Zc (.ref C) d oe
  hf : ∃ vs : Array Value, oe.data = .fields vs
  hD : FldAt W g0 H0 d fs
  hx : ∀ b dv, fieldOf fs b = some dv → XfC W.K C ∧ PySem.W.findIn W.K (.ref C) (W.an b) = some none
theorem pe_is (ho : HwOk W fC fF dC dF) (e : HE W X a oe C d c fs g0 H0) {h : Nat} {x : Str} (hn : (x, h) ∈ namesL) (hi : X.N[0]? = some en) (hv : Vis X.env.scope en) (hen : okNm en = true) (hgi : Gl X "isinstance") (hgx : Gl X x) (hdx : (x == ("__debug__" : Str)) = false) :
    PE X (.Call (.Name "isinstance" p1) [.Name en p2, .Name x p3] [] pos) (tM (W.hxw (hxF a c fs)) g0 H0 WF0 (ev (W.hxw (hxF a c fs)).T (callN (W.hxw (hxF a c fs)).T n) (.hx (h + 6)))) := by
  obtain ⟨Ch, e1, e2⟩ := ho.nm _ hn
  have hm : h ∈ ordC := by
    simp only [namesL, List.mem_cons, Prod.mk.injEq, List.not_mem_nil, or_false] at hn
    rcases hn with q | q | q | q | q | q | q | q | q <;> rw [q.2] <;> decide
  refine pe_isiE (W := W.hxw (hxF a c fs)) (i := 0) (cv := .ref Ch) (b := h == c) e.hp (by rw [e.xw.K]; exact ho.ec c C e.hC) e.hz e.hf e.hD hi hv (nm_of hen) hgi (by rw [e.xw.mg]; exact ho.bi)
    (pe_glob hgx (by rw [e.xw.mg]; exact e2) rfl hdx) (fun w r => r) (by rw [e.xw.K]; exact ho.ki c C h Ch e.hC e1 hm) fun env st v q => ?_
  have q' : hxF a c fs (h + 6) env st = some v := q
  rw [hx6] at q'
  split at q'
  · rename_i k
    exact ⟨by cases q'; rfl, hdAt_of k⟩
  · cases q'
theorem pe_isV (ho : HwOk W fC fF dC dF) (e : HE W X a oe C d c fs g0 H0) (hi : X.N[5]? = some en) (hv : Vis X.env.scope en) (hen : okNm en = true) (hgi : Gl X "isinstance") (hgx : Gl X "ValueError") :
    PE X (.Call (.Name "isinstance" p1) [.Name en p2, .Name "ValueError" p3] [] pos) (tM (W.hxw (hxF a c fs)) g0 H0 WF0 (ev (W.hxw (hxF a c fs)).T (callN (W.hxw (hxF a c fs)).T n) (.hx 1))) := by
  refine pe_isiE (W := W.hxw (hxF a c fs)) (i := 5) (cv := .ty "ValueError") (b := true) e.hp (by rw [e.xw.K]; exact ho.ec c C e.hC) e.hz e.hf e.hD hi hv (nm_of hen) hgi (by rw [e.xw.mg]; exact ho.bi)
    (pe_bltn hgx (by rw [e.xw.mg]; exact ho.bv) (by decide +kernel) rfl (by decide) (by decide)) (fun w r => r) (by rw [e.xw.K]; exact ho.kv c C e.hC) fun env st v q => ?_
  have q' : hxF a c fs 1 env st = some v := q
  rw [hx1] at q'
  split at q'
  · rename_i k
    exact ⟨by cases q'; rfl, hdAt_of k⟩
  · cases q'
theorem pe_fd (ho : HwOk W fC fF dC dF) (e : HE W X a oe C d c fs g0 H0) {b j : Nat} {x : Str} (hj : ∀ env st, hxF a c fs j env st = if hdAt env 1 a then fieldOf fs b else none) (ha : W.an b = x) (hi : X.N[1]? = some en) (hv : Vis X.env.scope en) (hen : okNm en = true) :
    PE X (.Attribute (.Name en p1) x pos) (tM (W.hxw (hxF a c fs)) g0 H0 WF0 (ev (W.hxw (hxF a c fs)).T (callN (W.hxw (hxF a c fs)).T n) (.hx j))) := by
  cases k : fieldOf fs b with
  | none =>
    refine pe_bad fun env st => ?_
    rw [ev_hx]
    have q : (W.hxw (hxF a c fs)).T.hx j env st = none := by
      show hxF a c fs j env st = none
      rw [hj, k]
      split <;> rfl
    rw [q]
    split <;> rfl
  | some dv =>
    subst ha
    obtain ⟨T, no⟩ := e.hx b dv k
    refine pe_fldE (W := W.hxw (hxF a c fs)) (i := 1) (wokH ho.wok) e.hp (by rw [e.xw.K]; exact T) (by rw [e.xw.K]; exact no) e.hz e.hf e.hD k hi hv (nm_of hen) fun env st v q => ?_
    have q' : hxF a c fs j env st = some v := q
    rw [hj, k] at q'
    split at q'
    · rename_i z
      exact ⟨by cases q'; rfl, hdAt_of z⟩
    · cases q'
end
/-! ### _law_classes -/
def bC : Ss := .cons (.asg (.nm 1) (.fr (.lst (.cons (.hx (1 + 6)) (.cons (.hx (2 + 6)) (.cons (.hx (4 + 6)) .nil))))))
  (.cons (.asg (.nm 1) (.bin .add (.var 1) (.fr (.lst (.cons (.hx (12 + 6)) (.cons (.hx (13 + 6)) (.cons (.hx (15 + 6)) .nil)))))))
  (.cons (.ret (.bin .add (.var 1) (.fr (.lst (.cons (.hx (16 + 6)) (.cons (.hx (3 + 6)) (.cons (.hx (18 + 6)) .nil))))))) .nil))
theorem ow_hd {a c : Nat} {fs : List (Nat × CF.D)} : isOwS (.hd a c fs) = false := rfl
theorem bC_run {T' : Tab} {Cf : CallF} {a : Addr} {c : Nat} {fs : List (Nat × CF.D)} {st : Sto} (hT : T'.hx = hxF a c fs) : exs T' Cf bC [.hd a c fs, .emp] st = .ok (.rt (.lst (clsD c))) st := by
  have h0 : ∀ s, hdAt [.hd a c fs, s] 0 a = true := fun s => by show (a == a) = true; simp
  have e : ∀ (h : Nat) (s : Slot) st, isOwS s = false → ev T' Cf (.hx (h + 6)) [.hd a c fs, s] st = .ok (.bl (h == c)) st := fun h s st hs => by
    rw [ev_hx, hT, hx6, h0]
    simp [hs, ow_hd]
  have l3 : ∀ (h1 h2 h3 : Nat) (s : Slot) st, isOwS s = false → ev T' Cf (.fr (.lst (.cons (.hx (h1 + 6)) (.cons (.hx (h2 + 6)) (.cons (.hx (h3 + 6)) .nil))))) [.hd a c fs, s] st = .ok (.lst [.bl (h1 == c), .bl (h2 == c), .bl (h3 == c)]) st := fun h1 h2 h3 s st hs => by
    simp only [w_ev_fr, w_evF_lst, w_evs_cons, w_evs_nil, e _ s _ hs, bind_ok]
    rfl
  have l3p : ∀ (h1 h2 h3 : Nat) (s : CF.D) st, ev T' Cf (.fr (.lst (.cons (.hx (h1 + 6)) (.cons (.hx (h2 + 6)) (.cons (.hx (h3 + 6)) .nil))))) [.hd a c fs, .pu s] st = .ok (.lst [.bl (h1 == c), .bl (h2 == c), .bl (h3 == c)]) st := fun h1 h2 h3 s st => l3 h1 h2 h3 _ st rfl
  have r1 : ∀ x : CF.D, readT [.hd a c fs, .pu x] 1 = some x := fun x => rfl
  have s1 : ex T' Cf (.asg (.nm 1) (.fr (.lst (.cons (.hx (1 + 6)) (.cons (.hx (2 + 6)) (.cons (.hx (4 + 6)) .nil)))))) [.hd a c fs, .emp] st = .ok (.nx [.hd a c fs, .pu (.lst [.bl (1 == c), .bl (2 == c), .bl (4 == c)])]) st := by
    rw [w_ex_asg, l3 _ _ _ _ _ rfl]
    rfl
  have s2 : ex T' Cf (.asg (.nm 1) (.bin .add (.var 1) (.fr (.lst (.cons (.hx (12 + 6)) (.cons (.hx (13 + 6)) (.cons (.hx (15 + 6)) .nil))))))) [.hd a c fs, .pu (.lst [.bl (1 == c), .bl (2 == c), .bl (4 == c)])] st = .ok (.nx [.hd a c fs, .pu (.lst [.bl (1 == c), .bl (2 == c), .bl (4 == c), .bl (12 == c), .bl (13 == c), .bl (15 == c)])]) st := by
    simp only [w_ex_asg, w_ev_bin, w_evT_var, w_evT_of (e := .fr _) (fun i z => by cases z), r1, of_some, bind_ok, l3p]
    rfl
  have s3 : ex T' Cf (.ret (.bin .add (.var 1) (.fr (.lst (.cons (.hx (16 + 6)) (.cons (.hx (3 + 6)) (.cons (.hx (18 + 6)) .nil))))))) [.hd a c fs, .pu (.lst [.bl (1 == c), .bl (2 == c), .bl (4 == c), .bl (12 == c), .bl (13 == c), .bl (15 == c)])] st = .ok (.rt (.lst (clsD c))) st := by
    simp only [w_ex_ret, w_ev_bin, w_evT_var, w_evT_of (e := .fr _) (fun i z => by cases z), r1, of_some, bind_ok, l3p]
    rfl
  unfold bC
  rw [exs_step s1, exs_step s2, exs_end s3]
end CFP
/-! H3 -/
set_option maxHeartbeats 1000000
/-! k13: _law_classes and _law_field, where the exception is handled. -/
namespace CFP
open PySem PySem.Spec PyProof.Rows L2 L2H HotX CF
section
variable {W : Wld} {fC fF : Addr} {dC dF : FuncData}
/-- what is known of the exception where a function is called -/
structure EX (W : Wld) (p : Addr × Obj) (C : Addr) (d : Option Addr) (c : Nat) (fs : List (Nat × CF.D)) (g : Gh) (H : Hp) : Prop where
  hC : W.xls c = some C
  hz : Zc (.ref C) d p.2
  hf : ∃ vs : Array Value, p.2.data = .fields vs
  hD : FldAt W g H d fs
  hx : ∀ b dv, fieldOf fs b = some dv → XfC W.K C ∧ PySem.W.findIn W.K (.ref C) (W.an b) = some none
/-- later on -/
theorem fld_next {g0 g : Gh} {H0 H : Hp} {d : Option Addr} {fs : List (Nat × CF.D)} (h : FldAt W g0 H0 d fs) (f : Frm g0 H0 g H) : FldAt W g H d fs := by
  rcases h with h | ⟨dx, vs, e1, e2, e3, e4, e5⟩
  · exact .inl h
  · refine .inr ⟨dx, vs, e1, ?_, ?_, fun m => e4 (f.mu dx (by rw [e2]; simp) m), Paired.mapP e5 fun _ _ q => ⟨q.1, q.2.mono f.le⟩⟩
    · rcases f.keep dx _ e2 e4 with q | ⟨⟨l, q⟩, _⟩
      · exact q
      · rw [e3] at q
        cases q
    · rw [f.fz dx (by rw [e2]; simp) e4]
      exact e3
theorem EX.next {p : Addr × Obj} {C : Addr} {d : Option Addr} {c : Nat} {fs : List (Nat × CF.D)} {g0 g : Gh} {H0 H : Hp} (e : EX W p C d c fs g0 H0) (f : Frm g0 H0 g H) : EX W p C d c fs g H := ⟨e.hC, e.hz, e.hf, fld_next e.hD f, e.hx⟩
/-- the promises -/
def spC (W : Wld) (p : Addr × Obj) : Sp := fun vs H Q _ => ∃ g st C d c fs, HS W g st H ∧ vs = [.ref p.1] ∧ EX W p C d c fs g H ∧ AftC W g H (.ok (.lst (clsD c)) st) Q (fun _ _ _ => False)
def spF (W : Wld) (p : Addr × Obj) : Sp := fun vs H Q _ => ∃ g st C d c fs, HS W g st H ∧ ∃ k : Int, vs = [.int k, .ref p.1] ∧ EX W p C d c fs g H ∧ AftC W g H (R.of (fldD k fs) st) Q (fun _ _ _ => False)
theorem aftC_hx {W : Wld} {f : Nat → CF.Env → Sto → Option CF.D} {g : Gh} {H : Hp} {o : Option CF.D} {st : Sto} {Q : VK} {E E' : XK} (h : AftC (W.hxw f) g H (R.of o st) Q E) : AftC W g H (R.of o st) Q E' := by
  cases o with
  | none => exact h.elim
  | some d => exact fun g' H' hs fr v rv => h g' H' hs.hx fr v rv
/-- two slots, the exception in one of them -/
theorem si_two {f : Nat → CF.Env → Sto → Option CF.D} {g : Gh} {st : Sto} {H : Hp} {env : CF.Env} {σ : L2.St} (hs : HS W g st H) (hl : env.length = σ.length) (h : ∀ (i : Nat) s x, env[i]? = some s → σ[i]? = some x → SlR W H g H x s) (hn : ∀ (i : Nat) d, env[i]? ≠ some (.ow d)) : SI (W.hxw f) g H env st g σ H :=
  SI.hx (W := W) ⟨hs, Frm.refl g H, hl, h, fun i j d e a e1 _ _ _ => absurd e1 (hn i d)⟩
theorem fn_classes (ho : HwOk W fC fF dC dF) (base : Heap) (Cc : CXT) : FnP W.P W.w W.K W.mg base Cc 2 fC dC ["_law_e"] (spC W) := by
  refine fnP_of ho.fnC zcC (fun p vs H Q E ⟨_, _, _, _, _, _, _, h, _⟩ => by rw [h]; rfl) ?_
  rintro p cdv A outer s H vs Q E hot hr ⟨g, st, C, d, c, fs, hs, rfl, ex, af⟩
  have xw : XW (cxH Cc W.P W.w W.K W.mg base [("_law_e" : Str), ("_law_found" : Str)] "_law_classes" (defScope zsC) fC cdv A outer s H E p) W := ⟨rfl, rfl, rfl, rfl, Nat.lt_of_le_of_lt (Nat.add_le_add_right (Nat.le_add_right _ _) 200) hr.un, ho.wok.ok0⟩
  have he : HE W (cxH Cc W.P W.w W.K W.mg base [("_law_e" : Str), ("_law_found" : Str)] "_law_classes" (defScope zsC) fC cdv A outer s H E p) p.1 p.2 C d c fs g H := ⟨xw, List.mem_singleton.mpr rfl, ex.hC, ex.hz, ex.hf, ex.hD, ex.hx⟩
  have nd : [("_law_e" : Str), ("_law_found" : Str)].Nodup := zcC.nd
  have vE : Vis (defScope zsC) "_law_e" := .inl (by decide +kernel)
  have lF : (defScope zsC).names.lookup ("_law_found" : Str) = some .local := by decide +kernel
  have gi : (defScope zsC).names.lookup ("isinstance" : Str) = some .globalImplicit := by decide +kernel
  have gl : ∀ p ∈ namesL, (defScope zsC).names.lookup p.1 = some .globalImplicit := by decide +kernel
  have is : ∀ (h : Nat) (x : Str) (p1 p2 p3 pos : Pos), (x, h) ∈ namesL → (x == ("__debug__" : Str)) = false → PE _ (.Call (.Name "isinstance" p1) [.Name "_law_e" p2, .Name x p3] [] pos) _ := fun h x p1 p2 p3 pos hx hd =>
    pe_is (n := 0) (p1 := p1) (p2 := p2) (p3 := p3) (pos := pos) ho he hx rfl vE (by decide) gi (gl _ hx) hd
  have body : PSs (cxH Cc W.P W.w W.K W.mg base [("_law_e" : Str), ("_law_found" : Str)] "_law_classes" (defScope zsC) fC cdv A outer s H E p) (defBody zsC) (tS (W.hxw (hxF p.1 c fs)) g H WF0 (exs (W.hxw (hxF p.1 c fs)).T (callN (W.hxw (hxF p.1 c fs)).T 0) bC)) := by
    unfold bC
    refine cs_cons (cs_set (i := 1) nd rfl (.inl lF) (.inr lF) (cf_fr (cf_lst (ca_cons rfl (is 1 _ _ _ _ _ (by decide) (by decide)) (ca_cons rfl (is 2 _ _ _ _ _ (by decide) (by decide)) (ca_cons rfl (is 4 _ _ _ _ _ (by decide) (by decide)) ca_nil))))) rfl) ?_
    refine cs_cons (cs_set (i := 1) nd rfl (.inl lF) (.inr lF) (cf_bin xw.hxw .add (cf_varT rfl (.inl lF) (by decide) (by decide)) (lookE (cf_fr (cf_lst (ca_cons rfl (is 12 _ _ _ _ _ (by decide) (by decide)) (ca_cons rfl (is 13 _ _ _ _ _ (by decide) (by decide)) (ca_cons rfl (is 15 _ _ _ _ _ (by decide) (by decide)) ca_nil))))) fun env s => by simp only [evT])) rfl) ?_
    exact cs_cons (cs_ret (cf_bin xw.hxw .add (cf_varT rfl (.inl lF) (by decide) (by decide)) (lookE (cf_fr (cf_lst (ca_cons rfl (is 16 _ _ _ _ _ (by decide) (by decide)) (ca_cons rfl (is 3 _ _ _ _ _ (by decide) (by decide)) (ca_cons rfl (is 18 _ _ _ _ _ (by decide) (by decide)) ca_nil))))) fun env s => by simp only [evT]))) cs_nil
  refine ⟨_, body, [.hd p.1 c fs, .emp], st, g, si_two hs rfl (fun i s x e1 e2 => ?_) (fun i d e => ?_), ?_⟩
  · match i, e1, e2 with
    | 0, e1, e2 => cases e1; cases e2; rfl
    | 1, e1, e2 => cases e1; trivial
  · match i, e with
    | 0, e => cases e
    | 1, e => cases e
  · rw [bC_run (T' := (W.hxw (hxF p.1 c fs)).T) rfl]
    exact fun v env σ g' H' l si rv => af g' H' si.hs.unhx si.fr v rv
/-! ### _law_field -/
def bF : Ss := .cons (.cnd (.cmp .lt (.var 0) (.cst (.int 7))) (.cons (.ret (.cst .non)) .nil) .nil) (.cons (.ret (.ite (.cmp .eq (.var 0) (.cst (.int 7))) (.hx 4) (.hx 5))) .nil)
theorem bF_run {T' : Tab} {Cf : CallF} {a : Addr} {c : Nat} {k : Int} {fs : List (Nat × CF.D)} {st : Sto} (hT : T'.hx = hxF a c fs) : R.ret (exs T' Cf bF [.pu (.int k), .hd a c fs] st) = R.of (fldD k fs) st := by
  have h1 : hdAt [.pu (.int k), .hd a c fs] 1 a = true := by show (a == a) = true; simp
  unfold bF fldD
  by_cases q1 : k < 7
  · simp [q1]
  · by_cases q2 : k = 7
    · subst q2
      simp [ev_hx, hT, hx4, h1, ow_hd]
      cases fieldOf fs 3 <;> rfl
    · simp [q1, q2, ev_hx, hT, hx5, h1, ow_hd]
      cases fieldOf fs 24 <;> rfl
theorem fn_field (ho : HwOk W fC fF dC dF) (base : Heap) (Cc : CXT) : FnP W.P W.w W.K W.mg base Cc 2 fF dF ["_law_k", "_law_e"] (spF W) := by
  refine fnP_of ho.fnF zcF (fun p vs H Q E ⟨_, _, _, _, _, _, _, _, h, _⟩ => by rw [h]; rfl) ?_
  rintro p cdv A outer s H vs Q E hot hr ⟨g, st, C, d, c, fs, hs, k, rfl, ex, af⟩
  have xw : XW (cxH Cc W.P W.w W.K W.mg base [("_law_k" : Str), ("_law_e" : Str)] "_law_field" (defScope zsF) fF cdv A outer s H E p) W := ⟨rfl, rfl, rfl, rfl, Nat.lt_of_le_of_lt (Nat.add_le_add_right (Nat.le_add_right _ _) 200) hr.un, ho.wok.ok0⟩
  have he : HE W (cxH Cc W.P W.w W.K W.mg base [("_law_k" : Str), ("_law_e" : Str)] "_law_field" (defScope zsF) fF cdv A outer s H E p) p.1 p.2 C d c fs g H := ⟨xw, List.mem_singleton.mpr rfl, ex.hC, ex.hz, ex.hf, ex.hD, ex.hx⟩
  have kc : CtxH (cxH Cc W.P W.w W.K W.mg base [("_law_k" : Str), ("_law_e" : Str)] "_law_field" (defScope zsF) fF cdv A outer s H E p) (W.hxw (hxF p.1 c fs)) 0 p (fun _ => false) [("_law_k" : Str), ("_law_e" : Str)] (defScope zsF) none := {
    xw := xw.hxw
    wok := wokH ho.wok
    nd := zcF.nd
    hot := hot
    hp := List.mem_singleton.mpr rfl
    room := hr
    hN := rfl
    hsc := rfl
    kind := zcF.kind
    fn := fun _ _ => rfl
    fns := fun f h => by cases h
    noE := ho.noE
    noL := ho.noL }
  have vE : Vis (defScope zsF) "_law_e" := .inl (by decide +kernel)
  have body : PSs (cxH Cc W.P W.w W.K W.mg base [("_law_k" : Str), ("_law_e" : Str)] "_law_field" (defScope zsF) fF cdv A outer s H E p) (defBody zsF) (tS (W.hxw (hxF p.1 c fs)) g H WF0 (exs (W.hxw (hxF p.1 c fs)).T (callN (W.hxw (hxF p.1 c fs)).T 0) bF)) := by
    unfold bF
    refine cs_cons (hotS_ok (M := nms0) ho.mks.hxw (.cnd (.cmp .lt (.var 0) (.cst (.int 7))) (.cons (.ret (.cst .non)) .nil) .nil) rfl _ p _ kc _ ?_ g H) (cs_cons (cs_ret (cf_ite (hotT_ok (M := nms0) ho.mks.hxw (.cmp .eq (.var 0) (.cst (.int 7))) rfl rfl kc ?_ g H)
      (pe_fd ho he (b := 3) (fun env st => hx4) ho.an3 rfl vE (by decide)) (pe_fd ho he (b := 24) (fun env st => hx5) ho.an24 rfl vE (by decide)))) cs_nil)
    · decide +kernel
    · decide +kernel
  refine ⟨_, body, [.pu (.int k), .hd p.1 c fs], st, g, si_two hs rfl (fun i s x e1 e2 => ?_) (fun i d e => ?_), ?_⟩
  · match i, e1, e2 with
    | 0, e1, e2 => cases e1; cases e2; exact ⟨_, rfl, rfl⟩
    | 1, e1, e2 => cases e1; cases e2; rfl
  · match i, e with
    | 0, e => cases e
    | 1, e => cases e
  · have r := bF_run (T' := (W.hxw (hxF p.1 c fs)).T) (Cf := callN (W.hxw (hxF p.1 c fs)).T 0) (a := p.1) (c := c) (k := k) (fs := fs) (st := st) rfl
    revert r af
    cases fldD k fs with
    | none => exact fun af => af.elim
    | some dv =>
      cases exs (W.hxw (hxF p.1 c fs)).T (callN (W.hxw (hxF p.1 c fs)).T 0) bF [.pu (.int k), .hd p.1 c fs] st with
      | bad => exact fun _ r => by cases r
      | exc _ _ _ => exact fun _ r => by cases r
      | ok fl st' =>
        cases fl with
        | nx env' =>
          intro af r
          cases r
          exact fun σ g' H' l si => af g' H' si.hs.unhx si.fr .non trivial
        | rt d' =>
          intro af r
          cases r
          exact fun v env σ g' H' l si rv => af g' H' si.hs.unhx si.fr v rv
end
end CFP
/-! H4 -/
set_option maxHeartbeats 1000000
/-! k13: the two calls within the suite. -/
namespace CFP
open PySem PySem.Spec PyProof.Rows L2 L2H HotX CF
section
variable {W : Wld} {fC fF : Addr} {dC dF : FuncData} {X : Cx} {a C : Addr} {oe : Obj} {d : Option Addr} {c : Nat} {fs : List (Nat × CF.D)} {g0 : Gh} {H0 : Hp} {n : Nat} {en kn : Str} {p1 p2 p3 pos : Pos}
theorem HE.ex (e : HE W X a oe C d c fs g0 H0) : EX W (a, oe) C d c fs g0 H0 := ⟨e.hC, e.hz, e.hf, e.hD, e.hx⟩
/-- the slot holds it -/
theorem hd_slot {f : Nat → CF.Env → Sto → Option CF.D} {env : CF.Env} {st : Sto} {g : Gh} {σ : L2.St} {H : Hp} {i : Nat} (si : SI (W.hxw f) g0 H0 env st g σ H) (h : hdAt env i a = true) : σ[i]? = some (some (.ref a)) := by
  obtain ⟨c2, fs2, e⟩ := hdAt_of h
  have li : i < σ.length := by
    rw [← si.er.len]
    exact (List.getElem?_eq_some_iff.mp e).1
  obtain ⟨x, hx⟩ : ∃ x, σ[i]? = some x := ⟨_, List.getElem?_eq_getElem li⟩
  have q : x = some (.ref a) := si.er.sl i _ x e hx
  rw [hx, q]
theorem pe_cls (ho : HwOk W fC fF dC dF) (e : HE W X a oe C d c fs g0 H0) (hot : Hot1 X.A (a, oe)) (hr : RoomH 2 X.A) (hi : X.N[5]? = some en) (hv : Vis X.env.scope en) (hen : okNm en = true) (hg : Gl X "_law_classes") :
    PE X (.Call (.Name "_law_classes" p1) [.Name en p2] [] pos) (tM (W.hxw (hxF a c fs)) g0 H0 WF0 (ev (W.hxw (hxF a c fs)).T (callN (W.hxw (hxF a c fs)).T n) (.hx 2))) := by
  have F := fn_classes ho X.base (L2N.CX X.prog X.w)
  rw [← e.xw.P, ← e.xw.w, ← e.xw.K, ← e.xw.mg] at F
  have hb : Binds X.K dC ["_law_e"] [] := by
    rw [e.xw.K]
    exact ho.fnC.binds (ps := ["_law_e"]) fun _ _ _ _ _ _ us hl => match us, hl with | [_], _ => rfl
  refine (pe_callP (q := p1) (pos := pos) (E := fun σ => WE WF0 σ) F hr hot e.hp hg (by rw [e.xw.mg]; exact ho.mC) (by rw [e.xw.K]; exact ho.fnC.kp) hb (fun σ => L2N.passAt takes0N σ) (pa_cons (pe_var (i := 5) hi hv (nm_of hen).1 (nm_of hen).2) pa_nil (by rfl)) (by decide) (by rfl) (by rfl)).imp' fun σ H Q ⟨env, st, g, si, af⟩ => ?_
  rw [ev_hx] at af
  split at af
  · rw [show (W.hxw (hxF a c fs)).T.hx 2 env st = if hdAt env 5 a then some (.lst (clsD c)) else none from rfl] at af
    split at af
    · rename_i hd
      exact ⟨.ref a, hd_slot si hd, g, st, C, d, c, fs, si.hs.unhx, rfl, e.ex.next si.fr, aftC_hx (o := some _) (aftC_of si af)⟩
    · exact af.elim
  · exact af.elim
theorem pe_fld (ho : HwOk W fC fF dC dF) (e : HE W X a oe C d c fs g0 H0) (hot : Hot1 X.A (a, oe)) (hr : RoomH 2 X.A) (hi : X.N[5]? = some en) (hv : Vis X.env.scope en) (hen : okNm en = true) (hk : X.N[2]? = some kn) (hvk : Vis X.env.scope kn) (hkn : okNm kn = true) (hg : Gl X "_law_field") :
    PE X (.Call (.Name "_law_field" p1) [.Name kn p2, .Name en p3] [] pos) (tM (W.hxw (hxF a c fs)) g0 H0 WF0 (ev (W.hxw (hxF a c fs)).T (callN (W.hxw (hxF a c fs)).T n) (.hx 3))) := by
  have F := fn_field ho X.base (L2N.CX X.prog X.w)
  rw [← e.xw.P, ← e.xw.w, ← e.xw.K, ← e.xw.mg] at F
  have hb : Binds X.K dF ["_law_k", "_law_e"] [] := by
    rw [e.xw.K]
    exact ho.fnF.binds (ps := ["_law_k", "_law_e"]) fun _ _ _ _ _ _ us hl => match us, hl with | [_, _], _ => rfl
  refine (pe_callP (q := p1) (pos := pos) (E := fun σ => WE WF0 σ) F hr hot e.hp hg (by rw [e.xw.mg]; exact ho.mF) (by rw [e.xw.K]; exact ho.fnF.kp) hb (fun σ => L2N.passAt takes0N σ) (pa_cons (pe_var (i := 2) hk hvk (nm_of hkn).1 (nm_of hkn).2) (pa_cons (pe_var (i := 5) hi hv (nm_of hen).1 (nm_of hen).2) pa_nil (by rfl)) (by rfl)) (by decide) (by rfl) (by rfl)).imp' fun σ H Q ⟨env, st, g, si, af⟩ => ?_
  rw [ev_hx] at af
  split at af
  · rw [show (W.hxw (hxF a c fs)).T.hx 3 env st = if hdAt env 5 a then fld2 env fs else none from rfl] at af
    split at af
    · rename_i hd
      unfold fld2 at af
      split at af
      · rename_i k hk2
        have lk : 2 < σ.length := by
          rw [← si.er.len]
          exact (List.getElem?_eq_some_iff.mp hk2).1
        obtain ⟨x, hx⟩ : ∃ x, σ[2]? = some x := ⟨_, List.getElem?_eq_getElem lk⟩
        obtain ⟨v, rfl, rv⟩ : ∃ v, x = some v ∧ RV g v (.int k) := si.er.sl 2 _ x hk2 hx
        cases RV.int_inv rv
        exact ⟨.int k, hx, .ref a, hd_slot si hd, g, st, C, d, c, fs, si.hs.unhx, k, rfl, e.ex.next si.fr, aftC_hx (aftC_of si af)⟩
      · exact af.elim
    · exact af.elim
  · exact af.elim
end
end CFP
/-! M3a -/
/-! What is drawn: the source of numbers. -/
namespace CFP
open CF
/-- a state of the drawing -/
def Rnd (l : List D) : Prop := ∃ (a b : Int) (cs : List Int), l = .int a :: .int b :: cs.map .int
section
variable {n : Nat} {r : Sto}
theorem mul_small {i j : Int} (h : small64 j = true) : mulI i j = some (i * j) := by
  unfold mulI
  rw [h, Bool.or_true, if_pos rfl]
theorem below_eq {l : List D} {s : Int} (h : Rnd l) (h0 : 0 < s) (h1 : s < 1000000) : ∃ (v : Nat) (l' : List D), (v : Int) < s ∧ Rnd l' ∧ callN T (n + 1) 38 [.ref 0, .int s] (.lst l :: r) = .ok (.int v) (.lst l' :: r) := by
  obtain ⟨a, b, cs, rfl⟩ := h
  have hs : ∀ i : Int, modI i s = some (i % s) := fun i => by unfold modI; rw [if_pos h0]
  have hd : ∀ i : Int, divI i s = some (i / s) := fun i => by unfold divI; rw [if_pos ⟨h0, by omega⟩]
  have hm : ∀ i : Int, modI i 2147483647 = some (i % 2147483647) := fun i => rfl
  have hd2 : ∀ i : Int, divI i 64 = some (i / 64) := fun i => rfl
  have hmu : ∀ i : Int, mulI i 48271 = some (i * 48271) := fun i => mul_small rfl
  have nn : ∀ i : Int, ((i % s).toNat : Int) = i % s := fun i => Int.toNat_of_nonneg (Int.emod_nonneg i (by omega))
  have lt : ∀ i : Int, i % s < s := fun i => Int.emod_lt_of_pos i h0
  have main : ∀ (a b : Int) (cs : List Int), ∃ (v : Nat) (l' : List D), (v : Int) < s ∧ Rnd l' ∧ (if 0 < b then R.ok (D.int (b % s)) (.lst (.int a :: .int (b / s) :: cs.map .int) :: r) else R.ok (D.int ((a * 48271 + 11) % 2147483647 / 64 % s)) (.lst (.int ((a * 48271 + 11) % 2147483647) :: .int b :: cs.map .int) :: r)) = R.ok (.int v) (.lst l' :: r) := fun a b cs => by
    by_cases hb : 0 < b
    · exact ⟨(b % s).toNat, _, by rw [nn]; exact lt _, ⟨a, b / s, cs, rfl⟩, by rw [if_pos hb, nn]⟩
    · exact ⟨((a * 48271 + 11) % 2147483647 / 64 % s).toNat, _, by rw [nn]; exact lt _, ⟨_, b, cs, rfl⟩, by rw [if_neg hb, nn]⟩
  rw [callN_succ fn38 rfl (by decide)]
  by_cases hb : b = 0
  · subst hb
    cases cs with
    | nil =>
      obtain ⟨v, l', q1, q2, q3⟩ := main a 0 []
      refine ⟨v, l', q1, q2, ?_⟩
      rw [← q3]
      simp [b38, hs, hd, hm, hd2, hmu, ix, muL, mPopAt, isLm]
    | cons c cs =>
      obtain ⟨v, l', q1, q2, q3⟩ := main a c cs
      refine ⟨v, l', q1, q2, ?_⟩
      rw [← q3]
      have g1 : (2 : Int) < cs.length + 1 + 1 + 1 := by omega
      have g2 : (1 : Int) < cs.length + 1 + 1 := by omega
      have g3 : (0 : Int) < cs.length + 1 + 1 := by omega
      simp [b38, hs, hd, hm, hd2, hmu, ix, muL, mPopAt, isLm, g1, g2, g3]
  · obtain ⟨v, l', q1, q2, q3⟩ := main a b cs
    refine ⟨v, l', q1, q2, ?_⟩
    rw [← q3]
    have g2 : (1 : Int) < cs.length + 1 + 1 := by omega
    have g3 : (0 : Int) < cs.length + 1 + 1 := by omega
    simp [b38, hs, hd, hm, hd2, hmu, ix, muL, mPopAt, isLm, hb, g2, g3]
theorem filterMap_if {α β : Type} {p : α → Prop} [DecidablePred p] {f : α → β} : ∀ l : List α, l.filterMap (fun a => if p a then some (f a) else none) = (l.filter fun a => decide (p a)).map f
  | [] => rfl
  | a :: l => by
    rw [List.filterMap_cons, List.filter_cons, filterMap_if l]
    by_cases h : p a
    · simp [h]
    · simp [h]
theorem random_loop : ∀ (ns : List Int) (z : D) (y a : Int) (x : Slot) (C : CallF), isOwS x = false → ∃ (a' : Int) (x' : Slot), isOwS x' = false ∧ loopV (wfor T C (.nm 3) b37f0) (ns.map .int) [.pu z, .pu (.int y), .pu (.int a), x] [] = .ok (.nx [.pu z, .pu (.int y), .pu (.int a'), x']) []
  | [], z, y, a, x, C, hx => ⟨a, x, hx, rfl⟩
  | i :: ns, z, y, a, x, C, hx => by
    have hm : ∀ i : Int, modI i 2147483647 = some (i % 2147483647) := fun i => rfl
    have hmu : ∀ i : Int, mulI i 31 = some (i * 31) := fun i => mul_small rfl
    obtain ⟨a', x', hx', q⟩ := random_loop ns z y ((a * 31 + (if i < 0 then -i else i)) % 2147483647) (.pu (.int i)) C rfl
    refine ⟨a', x', hx', ?_⟩
    rw [← q, List.map_cons, loopV_cons]
    have e : wfor T C (.nm 3) b37f0 (.int i) [.pu z, .pu (.int y), .pu (.int a), x] [] = .ok (.nx [.pu z, .pu (.int y), .pu (.int ((a * 31 + (if i < 0 then -i else i)) % 2147483647)), .pu (.int i)]) [] := by
      simp [b37f0, hm, hmu]
    rw [e, seq_nx]
theorem random_eq {ns : List Int} {y : Int} (hl : ns.length ≤ 63) : ∃ l, Rnd l ∧ callN T (n + 1) 37 [.scr ns, .int y] [] = .ok (.ref 0) [.lst l] := by
  obtain ⟨a, x, hx, q⟩ := random_loop ns (.scr ns) y y .emp (callN T n) rfl
  have hp : powI 10 18 = some 1000000000000000000 := rfl
  refine ⟨.int a :: .int 0 :: (ns.filter fun i => decide (1000000000000000000 ≤ i)).map .int, ⟨a, 0, _, rfl⟩, ?_⟩
  have hf : (ns.filter fun i => decide (1000000000000000000 ≤ i)).length ≤ 63 := Nat.le_trans (List.length_filter_le _ _) hl
  have g1 : (ns.filter fun i => decide (1000000000000000000 ≤ i)).length ≤ SZ := Nat.le_trans hf (by decide)
  have g2 : 2 + (ns.filter fun i => decide (1000000000000000000 ≤ i)).length ≤ SZ := Nat.le_trans (Nat.add_le_add_left hf 2) (by decide)
  rw [callN_succ fn37 rfl (by decide)]
  simp [b37, q]
  rw [compV_opt (g := fun i => if 1000000000000000000 ≤ i then some (D.int i) else none) (fun i _ => by
    simp [opBin, opInt, hp]
    split <;> rfl), filterMap_if]
  simp [g1, g2, alloc, hx, Nat.add_comm]
end
end CFP
/-! M3 -/
/-! What is drawn: the pick. -/
namespace CFP
open CF
section
variable {n : Nat} {r : Sto}
theorem pick_eq {l xs : List D} (h : Rnd l) (h0 : xs ≠ []) (h1 : xs.length < 1000000) : ∃ (x : D) (l' : List D), x ∈ xs ∧ Rnd l' ∧ callN T (n + 2) 39 [.ref 0, .lst xs] (.lst l :: r) = .ok x (.lst l' :: r) := by
  have hp : 0 < xs.length := List.length_pos_iff.mpr h0
  obtain ⟨v, l', q1, q2, q3⟩ := below_eq (n := n) (r := r) (s := xs.length) h (by omega) (by omega)
  have hv : v < xs.length := by omega
  refine ⟨xs[v], l', List.getElem_mem hv, q2, ?_⟩
  rw [callN_succ fn39 rfl (by decide)]
  simp [b39, q3, List.getElem?_eq_getElem hv]
end
end CFP
/-! H5 -/
set_option maxHeartbeats 1000000
/-! k13: what the suite gives. -/
namespace CFP
open CF
def bS : Ss := .cons (.asg (.nm 4) (.and (.hx 1) (.cmp .eq (.hx 2) lcE))) (.cons (.asg (.nm 4) (.and (.var 4) (.call 40 (.cons (.hx 3) (.cons ieE .nil))))) .nil)
section
variable {T' : Tab} {a c : Nat} {fs : List (Nat × CF.D)} {st : Sto} {n : Nat}
theorem six {i : Nat} (h : i < 6) : i = 0 ∨ i = 1 ∨ i = 2 ∨ i = 3 ∨ i = 4 ∨ i = 5 := by omega
theorem nine {k : Nat} (h : k < 9) : k = 0 ∨ k = 1 ∨ k = 2 ∨ k = 3 ∨ k = 4 ∨ k = 5 ∨ k = 6 ∨ k = 7 ∨ k = 8 := by omega
theorem eq40 (h40 : T'.fn 40 = some ⟨2, 4, b40⟩) {i : Nat} (hi : i < 6) : callN T' (n + 2) 40 [oneV i, oneV i] st = .ok (.bl true) st := by
  have e1 : ∀ j : Int, callN T' (n + 1) 40 [.int j, .int j] st = .ok (.bl true) st := fun j => by
    rw [callN_succ h40 rfl (by decide)]
    simp [b40]
  have er : rngOf [.int 1] = some (.val [.int 0]) := by rfl
  have pa : ∀ s, prim s .all [.lst [.bl true]] = some (.bl true) := fun s => by rfl
  rw [callN_succ h40 rfl (by decide)]
  rcases six hi with rfl | rfl | rfl | rfl | rfl | rfl
  · simp [b40, oneV]
  · simp [b40, oneV]
  · simp [b40, oneV]
  · simp [b40, oneV]
  · simp [b40, oneV, e1, er, compV, pa]
  · simp [b40, oneV, e1, er, compV, pa]
theorem lc_run {C : CallF} {s0 s1 s3 s4 s5 s6 : CF.Slot} {k : Nat} (h6 : isOwS s6 = false) : ev T' C lcE [s0, s1, .pu (.int k), s3, s4, s5, s6] st = .ok (.lst ((List.range 9).map fun (j : Nat) => .bl ((j : Int) == (k : Int)))) st := by
  have er : rngOf [.int 9] = some (.val ((List.range 9).map fun (j : Nat) => .int (j : Int))) := by rfl
  unfold lcE
  simp [er, h6]
  rw [compV_onM (g := fun (j : Nat) => .bl ((j : Int) == (k : Int))) (fun j _ => by simp)]
  simp [SZ]
theorem cls_eq {C : CallF} {k : Nat} (hk : k < 9) : cmpR T' C .eq (.lst (clsD (ordC.getD k 0))) (.lst ((List.range 9).map fun (j : Nat) => .bl ((j : Int) == (k : Int)))) st = .ok (.bl true) st := by
  have q : ∀ l, layN LV (.lst l) = layNs 59 l := fun l => w_lay6 (n := 59)
  rw [w_cmpL]
  rcases nine hk with rfl | rfl | rfl | rfl | rfl | rfl | rfl | rfl | rfl <;> simp [clsD, ordC, List.range, List.range.loop, q]
theorem fld_at {k i : Nat} (hk : k < 9) : fldD (k : Int) (fsAt k (oneV i)) = some (if 6 < k then oneV i else .non) := by
  rcases nine hk with rfl | rfl | rfl | rfl | rfl | rfl | rfl | rfl | rfl <;> simp [fldD, fsAt, fieldOf]
theorem bS_run (h40 : T'.fn 40 = some ⟨2, 4, b40⟩) {k i : Nat} {s0 s1 s4 s6 : CF.Slot} (hT : T'.hx = hxF a (ordC.getD k 0) (fsAt k (oneV i))) (hk : k < 9) (hi : i < 6) (h0 : isOwS s0 = false) (h1 : isOwS s1 = false) (h4 : isOwS s4 = false) (h6 : isOwS s6 = false) :
    exs T' (callN T' (n + 2)) bS [s0, s1, .pu (.int k), .pu (oneV i), s4, .hd a (ordC.getD k 0) (fsAt k (oneV i)), s6] st = .ok (.nx [s0, s1, .pu (.int k), .pu (oneV i), .pu (.bl true), .hd a (ordC.getD k 0) (fsAt k (oneV i)), s6]) st := by
  have hd : ∀ s c fs, hdAt [s0, s1, .pu (.int k), .pu (oneV i), s, .hd a c fs, s6] 5 a = true := fun s c fs => by show (a == a) = true; simp
  have cl := cls_eq (T' := T') (C := callN T' (n + 2)) (st := st) hk
  have lc := fun (s : CF.Slot) c fs => lc_run (T' := T') (st := st) (C := callN T' (n + 2)) (s0 := s0) (s1 := s1) (s3 := .pu (oneV i)) (s4 := s) (s5 := .hd a c fs) (k := k) h6
  have fl := fld_at (i := i) hk
  have f2 : ∀ s c fs, fld2 [s0, s1, .pu (.int k), .pu (oneV i), s, .hd a c fs, s6] (fsAt k (oneV i)) = fldD (k : Int) (fsAt k (oneV i)) := fun s c fs => rfl
  generalize ordC.getD k 0 = c at *
  generalize fsAt k (oneV i) = fs at *
  unfold bS
  rw [exs_step (e' := [s0, s1, .pu (.int k), .pu (oneV i), .pu (.bl true), .hd a c fs, s6]) (s' := st) (by
    have e1 : ev T' (callN T' (n + 2)) (.hx 1) [s0, s1, .pu (.int k), .pu (oneV i), s4, .hd a c fs, s6] st = .ok (.bl true) st := by
      rw [ev_hx, hT, hx1, hd]
      simp [h0, h1, h4, h6, ow_hd]
    have e2 : ev T' (callN T' (n + 2)) (.hx 2) [s0, s1, .pu (.int k), .pu (oneV i), s4, .hd a c fs, s6] st = .ok (.lst (clsD c)) st := by
      rw [ev_hx, hT, hx2, hd]
      simp [h0, h1, h4, h6, ow_hd]
    have e3 := lc s4 c fs
    have e4 : evT T' (callN T' (n + 2)) lcE [s0, s1, .pu (.int k), .pu (oneV i), s4, .hd a c fs, s6] st = ev T' (callN T' (n + 2)) lcE [s0, s1, .pu (.int k), .pu (oneV i), s4, .hd a c fs, s6] st := by
      unfold lcE
      exact w_evT_of fun i z => by cases z
    rw [w_ex_asg, w_ev_and, e1, w_asB_ok, bind_ok, if_pos rfl, w_ev_cmp, w_evT_of (fun i z => by cases z), e2, bind_ok, e4, e3, bind_ok, cl]
    simp)]
  rw [exs_step (e' := [s0, s1, .pu (.int k), .pu (oneV i), .pu (.bl true), .hd a c fs, s6]) (s' := st) (by
    have e1 : ev T' (callN T' (n + 2)) (.hx 3) [s0, s1, .pu (.int k), .pu (oneV i), .pu (.bl true), .hd a c fs, s6] st = .ok (if 6 < k then oneV i else .non) st := by
      rw [ev_hx, hT, hx3, hd, if_pos rfl, f2, fl]
      simp [h0, h1, h4, h6, ow_hd]
    have e2 : ev T' (callN T' (n + 2)) ieE [s0, s1, .pu (.int k), .pu (oneV i), .pu (.bl true), .hd a c fs, s6] st = .ok (if 6 < k then oneV i else .non) st := by
      unfold ieE
      by_cases q : 6 < k
      · have q2 : (6 : Int) < (k : Int) := by omega
        simp [q, q2]
      · have q2 : ¬ (6 : Int) < (k : Int) := by omega
        simp [q, q2]
    have e3 : callN T' (n + 2) 40 [if 6 < k then oneV i else .non, if 6 < k then oneV i else .non] st = .ok (.bl true) st := by
      by_cases q : 6 < k
      · simp only [q, if_true]
        exact eq40 h40 hi
      · simp only [q, if_false]
        exact eq40 h40 (i := 3) (by decide)
    have e4 : ev T' (callN T' (n + 2)) (.var 4) [s0, s1, .pu (.int k), .pu (oneV i), .pu (.bl true), .hd a c fs, s6] st = .ok (.bl true) st := by simp
    rw [w_ex_asg, w_ev_and, e4, w_asB_ok, bind_ok, if_pos rfl, w_ev_call, w_evs_cons, e1, bind_ok, w_evs_cons, e2, bind_ok, w_evs_nil, bind_ok, bind_ok, bind_ok, e3]
    simp)]
  simp
end
end CFP
/-! H6 -/
set_option maxHeartbeats 1000000
/-! k13: the suite. -/
namespace CFP
open PySem PySem.Spec PyProof.Rows L2 L2H HotX CF
section
variable {W : Wld} {fC fF : Addr} {dC dF : FuncData} {X : Cx} {a C : Addr} {oe : Obj} {d : Option Addr} {c : Nat} {fs : List (Nat × CF.D)} {g0 : Gh} {H0 : Hp} {n : Nat} {hf : Nat → Bool} {own : Option Scope}
theorem suite1 (ho : HwOk W fC fF dC dF) (e : HE W X a oe C d c fs g0 H0) (k : CtxH X (W.hxw (hxF a c fs)) n (a, oe) hf X.N X.env.scope (some noSc)) (hr : RoomH 2 X.A) {s : Stmt} (h : okS1 X.N X.env.scope s = true) :
    PS X s (tS (W.hxw (hxF a c fs)) g0 H0 WF0 (ex (W.hxw (hxF a c fs)).T (callN (W.hxw (hxF a c fs)).T n) (.asg (.nm 4) (.and (.hx 1) (.cmp .eq (.hx 2) lcE))))) := by
  unfold okS1 at h
  split at h
  · simp only [Bool.and_eq_true, beq_iff_eq] at h
    obtain ⟨⟨⟨⟨⟨⟨⟨⟨⟨⟨⟨⟨⟨⟨q1, q2⟩, q3⟩, q4⟩, q5⟩, q6⟩, q7⟩, q8⟩, q9⟩, q10⟩, q11⟩, q12⟩, q13⟩, q14⟩, q15⟩ := h
    subst q2
    subst q3
    subst q4
    subst q5
    rw [cmE_eq q1]
    have v5 := visH k q9
    exact cs_set k.nd (slotH k q6) (.inl q7) (.inr q7) (cf_and (pe_isV ho e (slotH k q8) v5 q10 (glH k q11) (glH k q12))
      (pe_and1 (cf_cmpH k .eq (marks_no q14) (lookE (pe_cls ho e k.hot hr (slotH k q8) v5 q10 (glH k q13)) fun env s => by simp only [evT]) (look_ofH k q15 (hotE_ok ho.mks.hxw lcE rfl X (a, oe) X.env.scope (some noSc) k _ q15 g0 H0))))) (swaps_no rfl)
  · cases h
theorem suite2 (ho : HwOk W fC fF dC dF) (e : HE W X a oe C d c fs g0 H0) (k : CtxH X (W.hxw (hxF a c fs)) n (a, oe) hf X.N X.env.scope (some noSc)) (hr : RoomH 2 X.A) (h40 : hf 40 = true) (hG : W.isG 40 = true) (hgn : W.gn 40 = "_law_equal") {s : Stmt} (h : okS2 X.N X.env.scope s = true) :
    PS X s (tS (W.hxw (hxF a c fs)) g0 H0 WF0 (ex (W.hxw (hxF a c fs)).T (callN (W.hxw (hxF a c fs)).T n) (.asg (.nm 4) (.and (.var 4) (.call 40 (.cons (.hx 3) (.cons ieE .nil))))))) := by
  unfold okS2 at h
  split at h
  · simp only [Bool.and_eq_true, beq_iff_eq] at h
    obtain ⟨⟨⟨⟨⟨⟨⟨⟨⟨⟨⟨⟨⟨⟨⟨q1, q2⟩, q3⟩, q4⟩, q5⟩, q6⟩, q7⟩, q8⟩, q9⟩, q10⟩, q11⟩, q12⟩, q13⟩, q14⟩, q15⟩, q16⟩ := h
    subst q1
    subst q3
    rw [← hgn] at q2
    subst q2
    have v5 := visH k q8
    exact cs_set k.nd (slotH k q4) (.inl q5) (.inr q5) (cf_and (cf_var (slotH k q4) (.inl q5) (nm_of q6).1 (nm_of q6).2)
      (pe_and1 (cf_callH k h40 hG (glH k q13) (by rw [hgn]; decide) (ca_cons (star_cons rfl) (pe_fld ho e k.hot hr (slotH k q7) v5 q9 (slotH k q10) (visH k q11) q12 (glH k q14)) (ca_cons (star_cons q15) (hotE_ok ho.mks.hxw ieE rfl X (a, oe) X.env.scope (some noSc) k _ q16 g0 H0) ca_nil)) (star_cons rfl) (star_all (by simp [q15]))))) (swaps_no rfl)
  · cases h
end
end CFP
/-! H7 -/
set_option maxHeartbeats 1000000
/-! k13: the suite keeps its promise. -/
namespace CFP
open PySem PySem.Spec PyProof.Rows L2 L2H HotX CF
/-- a class in isinstance: its children -/
theorem kit_ref {K : PySem.W.Frag} {C S : Addr} {b : Bool} (h2 : PySem.W.isClsIn K S = true) (h3 : PySem.W.typeIn K (.ref S) = some (.type "type")) (h4 : PySem.W.subIn K (.ref C) (.ref S) = some b) (h5 : PySem.W.subIn K (.ref C) (.ref C) = some true) : PySem.W.kitOne K (.ref C) (.ref S) = some b := by
  have e2 : ((PySem.W.clsIn K S).isSome && PySem.W.typeIn K (.ref S) == some (.type "type")) = true := by
    rw [show (PySem.W.clsIn K S).isSome = true from h2, h3]; rfl
  unfold PySem.W.kitOne
  split
  · rename_i e
    have e' : C = S := by
      have q := eq_of_beq e
      injection q
    rw [← e', h5] at h4
    exact h4
  · unfold PySem.W.kitCls
    simp only [if_pos e2]
    exact h4
theorem fone_hx {M : Nms} {W : Wld} {g : Nat → CF.Env → Sto → Option CF.D} {f : Nat} {fd : FDef} {x qual : Str} {st : Stmt} {N : List Str} (F : FOne M { W with hs := fun _ => none } f fd x qual st N) : FOne M (W.hxw g) f fd x qual st N := ⟨F.fn, F.sc, F.nl, F.np, F.ck, F.bi⟩
section
variable {W : Wld} {fC fF : Addr} {dC dF : FuncData}
/-- the slots, the exception held in the fifth -/
theorem si_hd {g0 g : Gh} {H0 H : Hp} {st : Sto} {σ : L2.St} {s0 s1 s2 s3 s4 s6 : CF.Slot} {c a : Nat} {fs : List (Nat × CF.D)} (si : SI W g0 H0 [s0, s1, s2, s3, s4, .ex c fs, s6] st g σ H) (h : σ[5]? = some (some (.ref a))) : SI W g0 H0 [s0, s1, s2, s3, s4, .hd a c fs, s6] st g σ H := by
  refine ⟨si.hs, si.fr, by rw [← si.er.len]; rfl, fun i s x e1 e2 => ?_, fun i j d e b e1 e2 => ?_⟩
  · match i, e1 with
    | 0, e1 => exact si.er.sl 0 s x e1 e2
    | 1, e1 => exact si.er.sl 1 s x e1 e2
    | 2, e1 => exact si.er.sl 2 s x e1 e2
    | 3, e1 => exact si.er.sl 3 s x e1 e2
    | 4, e1 => exact si.er.sl 4 s x e1 e2
    | 5, e1 => cases e1; rw [h] at e2; cases e2; rfl
    | 6, e1 => exact si.er.sl 6 s x e1 e2
  · have up : ∀ (i : Nat) d, ([s0, s1, s2, s3, s4, .hd a c fs, s6] : CF.Env)[i]? = some (.ow d) → ([s0, s1, s2, s3, s4, .ex c fs, s6] : CF.Env)[i]? = some (.ow d) := fun i d e => by
      match i, e with
      | 0, e => exact e
      | 1, e => exact e
      | 2, e => exact e
      | 3, e => exact e
      | 4, e => exact e
      | 5, e => cases e
      | 6, e => exact e
    exact si.er.ap i j d e b (up i d e1) (up j e e2)
/-- .. and let go -/
theorem si_unhd {g0 g : Gh} {H0 H : Hp} {st : Sto} {σ : L2.St} {s0 s1 s2 s3 s4 s6 : CF.Slot} {c a : Nat} {fs : List (Nat × CF.D)} (si : SI W g0 H0 [s0, s1, s2, s3, s4, .hd a c fs, s6] st g σ H) : SI W g0 H0 [s0, s1, s2, s3, s4, .ex c fs, s6] st g σ H := by
  refine ⟨si.hs, si.fr, by rw [← si.er.len]; rfl, fun i s x e1 e2 => ?_, fun i j d e b e1 e2 => ?_⟩
  · match i, e1 with
    | 0, e1 => exact si.er.sl 0 s x e1 e2
    | 1, e1 => exact si.er.sl 1 s x e1 e2
    | 2, e1 => exact si.er.sl 2 s x e1 e2
    | 3, e1 => exact si.er.sl 3 s x e1 e2
    | 4, e1 => exact si.er.sl 4 s x e1 e2
    | 5, e1 => cases e1; trivial
    | 6, e1 => exact si.er.sl 6 s x e1 e2
  · have up : ∀ (i : Nat) d, ([s0, s1, s2, s3, s4, .ex c fs, s6] : CF.Env)[i]? = some (.ow d) → ([s0, s1, s2, s3, s4, .hd a c fs, s6] : CF.Env)[i]? = some (.ow d) := fun i d e => by
      match i, e with
      | 0, e => exact e
      | 1, e => exact e
      | 2, e => exact e
      | 3, e => exact e
      | 4, e => exact e
      | 5, e => cases e
      | 6, e => exact e
    exact si.er.ap i j d e b (up i d e1) (up j e e2)
theorem hxOk13 (ho : HwOk W fC fF dC dF) (f40 : FOne nms0 { W with hs := fun _ => none } 40 ⟨2, 4, b40⟩ "_law_equal" "_law_equal" zs40 zn40) (hT : W.T = CFP.T) (hG : W.isG 40 = true) (hgn : W.gn 40 = "_law_equal") : HxOk W 0 p13 := by
  intro N sc body hok X n xw hcm hN hnd hsc hr _ a oe cls d pn hz hf
  subst hN
  subst hsc
  have hok' : ok13 X.N X.env.scope body = true := hok
  unfold ok13 at hok'
  rw [Bool.and_eq_true] at hok'
  obtain ⟨hk, hb⟩ := hok'
  have kind : X.env.scope.kind = .function := by
    split at hk
    · assumption
    · cases hk
  split at hb
  · rename_i A B
    rw [Bool.and_eq_true] at hb
    obtain ⟨b1, b2⟩ := hb
    refine ⟨fun pins s σ H D I ⟨env, st, g, c, fs, v, si, e1, e2, ex, na, hv, go⟩ => ?_⟩
    rw [hT] at hv
    obtain ⟨_, ⟨k, i, s0, s1, s4, s6, hk9, hi6, how, rfl⟩, rfl⟩ := hx13_inv (st := st) hv
    have e2' : some (CF.Slot.ex (ordC.getD k 0) (fsAt k (oneV i))) = some (.ex c fs) := e2
    injection e2' with e2'
    injection e2' with ec ef
    subst ec
    subst ef
    obtain ⟨⟨C, hC, rfl⟩, hD⟩ := ex
    have hx : ∀ b dv, fieldOf (fsAt k (oneV i)) b = some dv → XfC W.K C ∧ PySem.W.findIn W.K (.ref C) (W.an b) = some none := fun b dv hb => by
      have x3 : W.T.exf 3 = some [3] := by rw [hT]; rfl
      have x18 : W.T.exf 18 = some [24] := by rw [hT]; rfl
      rcases nine hk9 with rfl | rfl | rfl | rfl | rfl | rfl | rfl | rfl | rfl
      · cases hb
      · cases hb
      · cases hb
      · cases hb
      · cases hb
      · cases hb
      · cases hb
      · have eb : b = 3 := by
          simp [fieldOf, fsAt, List.lookup_cons] at hb
          by_cases q : b = 3
          · exact q
          · rw [show (b == 3) = false from by simpa using q] at hb
            cases hb
        subst eb
        have X := ho.wok.ex1 3 3 C x3 hC
        exact ⟨X.xf, X.no⟩
      · have eb : b = 24 := by
          simp [fieldOf, fsAt, List.lookup_cons] at hb
          by_cases q : b = 24
          · exact q
          · rw [show (b == 24) = false from by simpa using q] at hb
            cases hb
        subst eb
        have X := ho.wok.ex1 18 24 C x18 hC
        exact ⟨X.xf, X.no⟩
    have hot : Hot1 (X.suite a ((a, oe) :: pn)).A (a, oe) := by
      obtain ⟨vs, hvs⟩ := hf
      exact ⟨rfl, vs, hvs, hz.2.2 vs hvs⟩
    have room : RoomH 5 (X.suite a ((a, oe) :: pn)).A := ⟨by have := hr.dp; show X.A.depth + 3 * 5 + 5 < _; omega, by have := hr.un; show X.A.units + 16 * 5 + 200 < _; omega⟩
    have xw' : XW (X.suite a ((a, oe) :: pn)) W := ⟨xw.P, xw.w, xw.K, xw.mg, xw.room, xw.ok⟩
    have he : HE W (X.suite a ((a, oe) :: pn)) a oe C d (ordC.getD k 0) (fsAt k (oneV i)) g H := ⟨xw', List.mem_cons_self .., hC, hz.zc, hf, hD, hx⟩
    have h40 : W.T.fn 40 = some ⟨2, 4, b40⟩ := by rw [hT]; rfl
    have kc : CtxH (X.suite a ((a, oe) :: pn)) (W.hxw (hxF a (ordC.getD k 0) (fsAt k (oneV i)))) 4 (a, oe) (fun f => f == 40) X.N X.env.scope (some noSc) := {
      xw := xw'.hxw
      wok := wokH ho.wok
      nd := hnd
      hot := hot
      hp := List.mem_cons_self ..
      room := room
      hN := rfl
      hsc := rfl
      kind := kind
      fn := fun x h => by cases h
      fns := fun f hh => by
        have F := hfns_ok (M := nms0) (W := W.hxw (hxF a (ordC.getD k 0) (fsAt k (oneV i)))) (hf := fun f => f == 40) (wokH ho.wok) ho.mks.hxw X.base ho.noE ho.noL (fun f hf => by
          have e : f = 40 := by simpa using hf
          subst e
          exact ⟨_, _, _, _, _, h40, fone_hx f40, by decide⟩) 4 f hh
        rw [← xw'.hxw.P, ← xw'.hxw.w, ← xw'.hxw.K, ← xw'.hxw.mg] at F
        exact F
      noE := ho.noE
      noL := ho.noL }
    have body : PSs (X.suite a ((a, oe) :: pn)) [A, B] (tS (W.hxw (hxF a (ordC.getD k 0) (fsAt k (oneV i)))) g H WF0 (exs (W.hxw (hxF a (ordC.getD k 0) (fsAt k (oneV i)))).T (callN (W.hxw (hxF a (ordC.getD k 0) (fsAt k (oneV i)))).T 4) bS)) :=
      cs_cons (suite1 ho he kc (room.mono (by decide)) b1) (cs_cons (suite2 ho he kc (room.mono (by decide)) rfl hG hgn b2) cs_nil)
    simp only [List.all_cons, List.all_nil, Bool.and_true, Bool.and_eq_true, Bool.not_eq_true'] at how
    refine body.run pins s σ H D I ⟨[s0, s1, .pu (.int k), .pu (oneV i), s4, .hd a (ordC.getD k 0) (fsAt k (oneV i)), s6], st, g, (si_hd si e1).hx, ?_⟩
    rw [bS_run (T' := (W.hxw (hxF a (ordC.getD k 0) (fsAt k (oneV i)))).T) h40 rfl hk9 hi6 how.1 how.2.1 how.2.2.2.2.1 how.2.2.2.2.2.2]
    exact fun σ' g' H' l si2 => go σ' g' H' l (si_unhd si2.unhx)
  · cases hb
end
end CFP
/-! CFXi2 -/
/-! An own exception's __init__, walked: super().__init__("..") ; self.f = x. -/
namespace CF
open PySem PySem.Spec PyProof.Rows L2 NdefX
/-- what the written part says of C and its __init__ -/
structure XFun (P : Program) (K : PySem.W.Frag) (mg : Str → Option Value) (qual : Str) (st : Stmt) (fI C : Addr) (fd : FuncData) (f : Str) : Prop where
  T : OexC K C
  no : PySem.W.findIn K (.ref C) f = some none
  ex : ∃ (oc : Value) (od : Option Addr) (dV kV doc pm : Value) (an : Option Addr) (cda cc : Addr) (ct : Value) (osl : Array (Option Value)) (ccl cl : Value) (cdd cld : Option Addr) (vs : Array Value) (ccs csl : Array (Option Value)) (file : Str) (tf : Tok),
    fd = PySem.W.ksFn "__init__" qual (defArgs st) (defBody st) (defScope st) dV kV doc pm an (.ref cda) ct cc ∧ K.lookup fI = some ⟨oc, od, .func fd, osl⟩ ∧ PySem.W.codeIn K (.ref cda) qual = true ∧
    K.lookup cda = some ⟨ccl, cdd, .fields vs, ccs⟩ ∧ vs[2]? = some (.str file tf) ∧ ((P.main.file : Str) == file) = true ∧ K.lookup cc = some ⟨cl, cld, .cell (some (.ref C)), csl⟩
  top : (P.main.scope.names.lookup ("super" : Str)).isSome = false
  mg : mg "super" = none
  mro : PySem.W.mroIn K C (.ref C) = some true
  sup : PySem.W.ks_superIn K C C "__init__" = some (some (.builtin "ValueError.__init__"))
  sub : PySem.W.subIn K (.ref C) (.type "ValueError") = some true
  op : PySem.W.nsIn K cStatics "thirdparty.any" = some none
theorem upd_id {H : Hp} {a : Addr} {o : HO} (h : H a = some o) : upd H a o = H := by
  funext b
  by_cases e : b = a
  · rw [e, upd_same, h]
  · rw [upd_ne e]
section
variable {CX : CXT} {P : Program} {w : World} {K : PySem.W.Frag} {mg : Str → Option Value} {base : Heap} {k : Nat} {fI C : Addr} {qual self x f m : Str} {st : Stmt} {fd : FuncData} {N : List Str} {p0 p1 p2 p3 p4 p5 p6 p7 p8 p9 : Pos} {kk : Nat} {ar : Arg}
theorem super_eval {env : PySem.Env} {es : List Expr} {apos pos : Pos} {nm : Str} {o : Expr} (ha : es.all notStar = true) (hn : es.length < 30) (hl : (apos.endLine == pos.line) = true) : eval (.Call (.Attribute o nm apos) es [] pos) env = (do
      let ov ← attributeBase o nm env (eval o env)
      standAt apos.atName
      let (f, first) ← holding [ov] (getMethod ov nm (plainOf o env))
      callWith pos f first (backTo pos (starEach es env)) []) := by
  rw [arm_eval_Call]
  congr 1
  funext ov
  congr 1
  funext _
  exact mcall_line (form_ok ha hn) hl
/-- the walk -/
theorem xi_fn (F : XFun P K mg qual st fI C fd f) (S : NScope N [self, x] ["__class__"] (defScope st)) (hne : (self == x) = false)
    (hst : defBody st = [.Expr (.Call (.Attribute (.Call (.Name "super" p0) [] [] p1) "__init__" p2) [.Constant (.str m) kk p3] [] p4) p5, .Assign [.Attribute (.Name self p6) f p7] (.Name x p8) p9])
    (hpar : ((defArgs st).posonlyargs ++ (defArgs st).args).head? = some ar) (har : ar.arg = self) (hsu : (defScope st).names.lookup ("super" : Str) = some .globalImplicit) (hl : (p2.endLine == p4.line) = true)
    (d1 : (self == ("__debug__" : Str)) = false) (d2 : (self == ("__classdict__" : Str)) = false) (d3 : (x == ("__debug__" : Str)) = false) (d4 : (x == ("__classdict__" : Str)) = false) :
    FnOk P w K mg base CX (k + 1) fI fd [self, x] (spXI C f) := by
  obtain ⟨oc, od, dV, kV, doc, pm, an, cda, cc, ct, osl, ccl, cl, cdd, cld, vs, ccs, csl, file, tf, rfl, ho, hcd, hcda, hvs, hfile, hcell⟩ := F.ex
  refine ⟨fun vs H Q E ⟨a, y, e, _⟩ => by rw [e]; rfl, fun A outer s H args us vs' Q E hr e0 hbd r hsp => ?_⟩
  obtain ⟨a, y, rfl, ea, q⟩ := hsp
  cases r with
  | @cons _ u1 _ us1 ra r2 =>
  cases r2 with
  | @cons _ u2 _ us2 ry r3 =>
  cases r3
  obtain rfl : u1 = Value.ref a := ra
  obtain ⟨n0, q0, Nn, bs, bm, sn, sub, ab, col, dd, k0, k1, k2, k3, k5, hC, hbm⟩ := F.T.cls
  have X0 : K.In s.heap := e0.mod.kin.keeps fun b o e => (e0.bs b o e).1
  have lim : s.heap.NoLimit := e0.mod.nolimit.keeps fun b o e => (e0.bs b o e).1
  have hcc : H cc = none := (e0.bs cc _ (e0.mod.kin _ _ hcell)).2
  have one : ∀ {y : Str} {c : Addr}, ([("__class__", cc)] : List (Str × Addr)).lookup y = some c → y = "__class__" ∧ c = cc := fun {y c} e => by
    simp only [List.lookup] at e
    split at e
    · rename_i h
      exact ⟨by simpa using h, (Option.some.inj e).symm⟩
    · cases e
  have CA : CellsAt (NF.mk "__init__" qual (defArgs st) (defBody st) (defScope st) [("__class__", cc)] cda).cl ["__class__"] [none] s.heap H := by
    refine ⟨rfl, fun y c e => ?_, fun y z c e1 e2 => (one e1).1.trans (one e2).1.symm, fun i y e => ?_⟩
    · obtain ⟨_, rfl⟩ := one e
      exact ⟨hcc, _, _, X0 _ _ hcell, rfl⟩
    · cases i with
      | zero =>
        cases e
        exact ⟨cc, by simp [List.lookup], fun v z => by cases z⟩
      | succ i => cases e
  refine ks_codeAny_call_defAt hr.depth (X0 _ _ ho) rfl lim (PySem.W.codeRec_of X0 hcd) rfl hbd S.nocell (fun y hy => S.par y.1 (List.of_mem_zip hy).1) (fun h₀ hns kp => ?_) S.co S.gen S.kind
  have I := inv_startN (CX := CX) (E := E) (P := P) (w := w) (f := fI) (F := NF.mk "__init__" qual (defArgs st) (defBody st) (defScope st) [("__class__", cc)] cda) (tk := s.toks + ([self, x].zip [Value.ref a, u2]).length) S hr.hd e0 rfl (show Vals [V.ref a, y] [Value.ref a, u2] from .cons rfl (.cons ry .nil)) CA hns kp
  have hb : ∀ env, execs (defBody st) env = execs [.Expr (.Call (.Attribute (.Call (.Name "super" p0) [] [] p1) "__init__" p2) [.Constant (.str m) kk p3] [] p4) p5, .Assign [.Attribute (.Name self p6) f p7] (.Name x p8) p9] env := fun env => by rw [hst]
  rw [hb]
  have KI := I.kIn
  obtain ⟨mb, hb1, hb2⟩ := I.mod.blt
  obtain ⟨t1, hoa⟩ := exo_at I.hok ea
  have hcl : PySem.W.clsIn K C = some { name := n0, bases := bs, mro := .ref C :: bm, ns := Nn, qualname := q0, hasDict := true, slotNames := sn, subclasses := sub, abstract := ab, collection := col, hasDel := false } := by unfold PySem.W.clsIn; rw [hC] <;> rfl
  refine ks_wpAt_execs_cons (ks_wpAt_Expr_any (ks_wpAt_MethodCall ?_ (super_eval rfl (by simp) hl)) I.quiet (swaps_no rfl))
  refine ks_wpAt_super_base (f := fI) (cc := cda) hsu (S.frk _ (by simp)) (by decide) rfl (KI _ _ ho) rfl hpar rfl (KI _ _ hcda) rfl hvs hfile F.top ?_
  refine PySem.W.ks_loadName_global S.kind hsu (Calls.loadGlobal_builtin (mg := mg) (mb := mb) (I.mod.glob.keeps I.bk) F.mg (hb1.keeps I.bk) ((hb2 "super" (by decide)).trans (by decide +kernel)) ⟨rfl, ?_⟩)
  refine wpAny_loadName_free S.kind (S.frk _ (by simp)) rfl ⟨_, KI _ _ hcell, rfl⟩ ?_
  rw [har]
  refine wpAny_loadName_local S.kind (S.par self (by simp)) hns (v := .ref a) ?_ ?_
  · have e : ([self, x].zip [Value.ref a, u2]).reverse = [(x, u2), (self, Value.ref a)] := rfl
    rw [e]
    simp [List.lookup, hne]
  refine ks_wpAny_isType_cls (KI _ _ hC) rfl ⟨rfl, ?_⟩
  refine ks_wpAny_call_super (KI _ _ hC) rfl hoa rfl (fun c e => by cases e) (PySem.W.looks_mroIn KI F.mro) (fun h' e k' => ?_)
  have I1 := I.kept (t' := s.toks + ([self, x].zip [Value.ref a, u2]).length) k'
  have hoa1 := k' _ _ hoa
  have ia : PySem.W.InstAt h' a _ C none := ⟨hoa1, rfl, rfl, trivial⟩
  have sup := F.sup
  unfold PySem.W.ks_superIn at sup
  rw [hcl] at sup
  refine PySem.W.kxs_getMethod PySem.W.kxs_ValueError (l₀ := .ref C :: bm) e (PySem.W.looks_opaque I1.kIn F.op) (fun A Q E s k q => wpAny_bind ((PySem.W.looks_clsIn I1.kIn hcl) A _ E s k (wpAny_pure q))) rfl I1.kIn sup (ia.type.andThen (PySem.W.looks_subIn I1.kIn F.sub)) (PySem.W.ks_ne I1.kIn ia hcl) (by decide) ?_
  have I2 := I1.kept (t' := s.toks + ([self, x].zip [Value.ref a, u2]).length + 1) (h' := h'.push (PySem.W.kxs_mw "ValueError.__init__" a)) fun b o z => Heap.get?_push_of_some _ z
  have I3 := I2.pins_of (pins' := [(h'.objs.size, PySem.W.kxs_mw "ValueError.__init__" a)]) fun p hp => by
    rcases List.mem_cons.mp hp with rfl | hp
    · exact ⟨Heap.get?_push_at rfl rfl, I1.hok.fresh (Nat.le_refl _), Nat.ne_of_gt I1.lt, I1.nofs (Nat.le_refl _), fun v z => by cases z⟩
    · cases hp
  refine PySem.W.kxs_callWith (i := "ValueError.__init__") (x := a) rfl (Calls.evalArgs_plain ?_)
  refine thn ((pa_cons pe_str pa_nil).run p4 _ _ _ H (fun vs H1 => vs = [.str m] ∧ H1 = H) I3 ⟨rfl, rfl⟩) fun us s1 ⟨vs1, H1, I4, r4, e1, e2⟩ => ?_
  subst e1
  subst e2
  have pin := I4.pin (h'.objs.size, PySem.W.kxs_mw "ValueError.__init__" a) (List.mem_append_right _ (by simp))
  refine ⟨pin.1, ?_⟩
  obtain ⟨t4, hx4⟩ := exo_at I4.hok ea
  have hlen : us.length ≤ sizeLine := by
    rw [← Paired.length r4, sizeLine_eq]
    simp
  obtain ⟨hp, g, d, t, os⟩ := s1
  refine xi_call F.T I4.kIn pin.1 hx4 hlen fun h5 t5 k5 hx5 => ?_
  have J := I4.write (t' := t) (x := a) (e := a) (o := exo a C none) (by rw [ea]; exact True.intro) (.inl rfl) k5 ⟨_, hx5⟩ (exo_ok hx5)
  rw [upd_id ea] at J
  have n0 : N.length ≥ 2 ∧ N[0]? = some self ∧ N[1]? = some x := by
    have e := S.pre
    have l := congrArg List.length e
    simp only [List.length_take, List.length_append, List.length_cons, List.length_nil] at l
    refine ⟨by omega, ?_, ?_⟩
    · have z := congrArg (fun l => l[0]?) e
      simpa using z
    · have z := congrArg (fun l => l[1]?) e
      simpa using z
  have v1 := pe_var (X := ncx CX P w K mg base N (NF.mk "__init__" qual (defArgs st) (defBody st) (defScope st) [("__class__", cc)] cda) fI A outer s H1 E) (i := 0) (pos := p6) n0.2.1 (.inl (S.par self (by simp))) d1 d2
  have v2 := pe_var (X := ncx CX P w K mg base N (NF.mk "__init__" qual (defArgs st) (defBody st) (defScope st) [("__class__", cc)] cda) fI A outer s H1 E) (i := 1) (pos := p8) n0.2.2 (.inl (S.par x (by simp))) d3 d4
  refine wpAt_of_wpAny (wpAny_mono ((pss_one (ps_ost (f := f) (p' := p7) (pos := p9) v1 v2)).run _ _ _ H1 { nx := fun _ H' => Q .non H', rt := Q } J ?_) (fun fl s' hs => ?_) fun e s' hs => hs)
  · refine ⟨y, rfl, .ref a, rfl, a, C, rfl, F.T, F.no, .inl ⟨ea, fun dx n1 n2 => q dx n1 n2⟩⟩
  · cases fl with
    | ret u =>
      obtain ⟨v, σ', H', J', rv, q'⟩ := hs
      exact ⟨v, H', J'.os, J'.bare, J'.base, J'.hok, rv, q'⟩
    | next =>
      obtain ⟨σ', H', J', q'⟩ := hs
      exact ⟨V.non, H', J'.os, J'.bare, J'.base, J'.hok, rfl, q'⟩
    | brk =>
      obtain ⟨_, _, _, q'⟩ := hs
      exact q'.elim
    | cont =>
      obtain ⟨_, _, _, q'⟩ := hs
      exact q'.elim
end
end CF
/-! World -/
namespace CFP
open PySem PySem.Spec L2 CF
theorem eqm_one {k v c f : Nat} (h : [(k, v)].lookup c = some f) : c = k ∧ f = v := by
  rw [List.lookup_cons] at h
  by_cases e : c = k
  · subst e; simp only [beq_self_eq_true, Option.some.injEq] at h; exact ⟨rfl, h.symm⟩
  · rw [show (c == k) = false from beq_eq_false_iff_ne.mpr e] at h; cases h
theorem isC_one {k c : Nat} (h : [k].contains c = true) : c = k := by
  simpa using h
theorem nscope_3 : NdefX.NScope [("self" : Str), ("index" : Str), ("__class__" : Str)] [("self" : Str), ("index" : Str)] ["__class__"] (defScope xz3) := NdefX.nscope_by (by decide +kernel)
theorem nscope_18 : NdefX.NScope [("self" : Str), ("line" : Str), ("__class__" : Str)] [("self" : Str), ("line" : Str)] ["__class__"] (defScope xz18) := NdefX.nscope_by (by decide +kernel)
def psl : List (Nat × List Str) := [(37, [("_law_script" : Str), ("_law_salt" : Str)]), (38, [("_law_d" : Str), ("_law_size" : Str)]), (39, [("_law_d" : Str), ("_law_items" : Str)]), (40, [("_law_actual" : Str), ("_law_expected" : Str)]), (142, [("_law_k" : Str), ("_law_one" : Str)]), (56, [("_law_script" : Str)])]
section
variable {P : Program} {w : World} {K : PySem.W.Frag} {h : Heap} {mg : Str → Option Value} {fa : Addr} {C0 : Addr} {C1 : Addr} {C2 : Addr} {C3 : Addr} {C4 : Addr} {C12 : Addr} {C13 : Addr} {C15 : Addr} {C16 : Addr} {C18 : Addr}  {f37 : Addr} {d37 : FuncData}  {f38 : Addr} {d38 : FuncData}  {f39 : Addr} {d39 : FuncData}  {f40 : Addr} {d40 : FuncData}  {f142 : Addr} {d142 : FuncData}  {f56 : Addr} {d56 : FuncData} {fx3 cx3 ux3 Nx3 : Addr} {nx3 qx3 : Str} {bx3 bmx3 subx3 : List Value} {snx3 : List Str} {abx3 : Bool} {colx3 : Option Bool} {ddx3 odx3 anx3 clx3 cldx3 : Option Addr} {k0x3 k1x3 k2x3 k3x3 k5x3 : Option Value} {ocx3 kVx3 docx3 pmx3 ctx3 cclx3 ccx3 : Value} {oslx3 ccsx3 cslx3 : Array (Option Value)} {vsx3 : Array Value} {filex3 : Str} {tfx3 : Tok} {fx18 cx18 ux18 Nx18 : Addr} {nx18 qx18 : Str} {bx18 bmx18 subx18 : List Value} {snx18 : List Str} {abx18 : Bool} {colx18 : Option Bool} {ddx18 odx18 anx18 clx18 cldx18 : Option Addr} {k0x18 k1x18 k2x18 k3x18 k5x18 : Option Value} {ocx18 kVx18 docx18 pmx18 ctx18 cclx18 ccx18 : Value} {oslx18 ccsx18 cslx18 : Array (Option Value)} {vsx18 : Array Value} {filex18 : Str} {tfx18 : Tok} {fC : Addr} {dC : FuncData} {fF : Addr} {dF : FuncData}
noncomputable abbrev mkW (P : Program) (w : World) (K : PySem.W.Frag) (mg : Str → Option Value) (al : List (Nat × Addr)) (dl : List (Nat × FuncData)) (dd : FuncData) (cl xl : List (Nat × Addr)) (f0 : Addr → Option D) : Wld := { P := P, w := w, K := K, mg := mg, T := T, cls := fun c => cl.lookup c, an := nameOf anl 0, f0 := f0, ad := fun f => (al.lookup f).getD 0, fd := fun f => (dl.lookup f).getD dd, ps := fun f => (psl.lookup f).getD [], isG := isGF, gn := gnF, gc := fun x => gcl.lookup x, kd := fun x => kdl.lookup x, cn := cnF, mn := nameOf mnl 1, xls := fun c => xl.lookup c }
set_option maxHeartbeats 0 in
theorem all_mk (law : CF.Law T NN lawId) (X : K.In h) (G : h.Ns mainGlobals mg) (hfa : mg "law" = some (.ref fa)) 
  (a37 : PySem.W.nsIn K mainGlobals ("_law_random" : Str) = some (some (.ref f37)))
  (F37 : L2.Fun K ("_law_random" : Str) ("_law_random" : Str) zs37 f37 d37)
  (a38 : PySem.W.nsIn K mainGlobals ("_law_below" : Str) = some (some (.ref f38)))
  (F38 : L2.Fun K ("_law_below" : Str) ("_law_below" : Str) zs38 f38 d38)
  (a39 : PySem.W.nsIn K mainGlobals ("_law_pick" : Str) = some (some (.ref f39)))
  (F39 : L2.Fun K ("_law_pick" : Str) ("_law_pick" : Str) zs39 f39 d39)
  (a40 : PySem.W.nsIn K mainGlobals ("_law_equal" : Str) = some (some (.ref f40)))
  (F40 : L2.Fun K ("_law_equal" : Str) ("_law_equal" : Str) zs40 f40 d40)
  (a142 : PySem.W.nsIn K mainGlobals ("_law_thrown" : Str) = some (some (.ref f142)))
  (F142 : L2.Fun K ("_law_thrown" : Str) ("_law_thrown" : Str) zs142 f142 d142)
  (a56 : PySem.W.nsIn K mainGlobals ("law" : Str) = some (some (.ref f56)))
  (F56 : L2.Fun K ("law" : Str) ("law" : Str) zs56 f56 d56)
  (xa0 : PySem.W.nsIn K mainGlobals ("FormError" : Str) = some (some (.ref C0)))
  (xk0 : PySem.W.keepIn K (.ref C0) = true)
  (xb0 : PySem.W.subIn K (.ref C0) (.type "BaseException") = some true)
  (xt0 : PySem.W.typeIn K (.ref C0) = some (.type "type"))
  (xc0 : PySem.W.isClsIn K C0 = true)
  (xe0 : PySem.W.excIn K C0 [.type "ValueError", .type "Exception", .type "BaseException", .type "object"] "ValueError.__new__" = true)
  (xa1 : PySem.W.nsIn K mainGlobals ("BadQuestions" : Str) = some (some (.ref C1)))
  (xk1 : PySem.W.keepIn K (.ref C1) = true)
  (xb1 : PySem.W.subIn K (.ref C1) (.type "BaseException") = some true)
  (xt1 : PySem.W.typeIn K (.ref C1) = some (.type "type"))
  (xc1 : PySem.W.isClsIn K C1 = true)
  (xe1 : PySem.W.excIn K C1 [.type "ValueError", .type "Exception", .type "BaseException", .type "object"] "ValueError.__new__" = true)
  (xa2 : PySem.W.nsIn K mainGlobals ("BadLists" : Str) = some (some (.ref C2)))
  (xk2 : PySem.W.keepIn K (.ref C2) = true)
  (xb2 : PySem.W.subIn K (.ref C2) (.type "BaseException") = some true)
  (xt2 : PySem.W.typeIn K (.ref C2) = some (.type "type"))
  (xc2 : PySem.W.isClsIn K C2 = true)
  (xe2 : PySem.W.excIn K C2 [.type "ValueError", .type "Exception", .type "BaseException", .type "object"] "ValueError.__new__" = true)
  (xa3 : PySem.W.nsIn K mainGlobals ("BadBody" : Str) = some (some (.ref C3)))
  (xk3 : PySem.W.keepIn K (.ref C3) = true)
  (xb3 : PySem.W.subIn K (.ref C3) (.type "BaseException") = some true)
  (xt3 : PySem.W.typeIn K (.ref C3) = some (.type "type"))
  (xc3 : PySem.W.isClsIn K C3 = true)
  (xo3 : K.lookup C3 = some (excClassObj nx3 qx3 C3 Nx3 bx3 bmx3 true snx3 subx3 abx3 colx3 ddx3 k0x3 k1x3 k2x3 k3x3 k5x3 "ValueError.__new__"))
  (xr3 : PySem.HandSPX.refsVE bmx3 = true)
  (xsa3 : PySem.W.findIn K (.ref C3) "__setattr__" = some (some (.builtin "object.__setattr__")))
  (xga3 : PySem.W.findIn K (.ref C3) "__getattribute__" = some (some (.builtin "BaseException.__getattribute__")))
  (xgg3 : PySem.W.findIn K (.ref C3) "__getattr__" = some none)
  (xhd3 : PySem.W.hasDictIn K C3 = true)
  (xno3 : PySem.W.findIn K (.ref C3) ("index" : Str) = some none)
  (xin3 : PySem.W.findIn K (.ref C3) "__init__" = some (some (.ref fx3)))
  (xit3 : PySem.W.typeIn K (.ref fx3) = some (.type "function"))
  (xfn3 : K.lookup fx3 = some ⟨ocx3, odx3, .func (PySem.W.ksFn "__init__" ("BadBody.__init__" : Str) (defArgs xz3) (defBody xz3) (defScope xz3) .none kVx3 docx3 pmx3 anx3 (.ref cx3) ctx3 ux3), oslx3⟩)
  (xcd3 : PySem.W.codeIn K (.ref cx3) ("BadBody.__init__" : Str) = true)
  (xcl3 : K.lookup cx3 = some ⟨cclx3, clx3, .fields vsx3, ccsx3⟩)
  (xvs3 : vsx3[2]? = some (.str filex3 tfx3))
  (xff3 : ((P.main.file : Str) == filex3) = true)
  (xce3 : K.lookup ux3 = some ⟨ccx3, cldx3, .cell (some (.ref C3)), cslx3⟩)
  (xmr3 : PySem.W.mroIn K C3 (.ref C3) = some true)
  (xsu3 : PySem.W.ks_superIn K C3 C3 "__init__" = some (some (.builtin "ValueError.__init__")))
  (xsv3 : PySem.W.subIn K (.ref C3) (.type "ValueError") = some true)
  (xa4 : PySem.W.nsIn K mainGlobals ("BadCase" : Str) = some (some (.ref C4)))
  (xk4 : PySem.W.keepIn K (.ref C4) = true)
  (xb4 : PySem.W.subIn K (.ref C4) (.type "BaseException") = some true)
  (xt4 : PySem.W.typeIn K (.ref C4) = some (.type "type"))
  (xc4 : PySem.W.isClsIn K C4 = true)
  (xe4 : PySem.W.excIn K C4 [.type "ValueError", .type "Exception", .type "BaseException", .type "object"] "ValueError.__new__" = true)
  (xa12 : PySem.W.nsIn K mainGlobals ("UnknownReference" : Str) = some (some (.ref C12)))
  (xk12 : PySem.W.keepIn K (.ref C12) = true)
  (xb12 : PySem.W.subIn K (.ref C12) (.type "BaseException") = some true)
  (xt12 : PySem.W.typeIn K (.ref C12) = some (.type "type"))
  (xc12 : PySem.W.isClsIn K C12 = true)
  (xe12 : PySem.W.excIn K C12 [.type "ValueError", .type "Exception", .type "BaseException", .type "object"] "ValueError.__new__" = true)
  (xa13 : PySem.W.nsIn K mainGlobals ("UnknownMark" : Str) = some (some (.ref C13)))
  (xk13 : PySem.W.keepIn K (.ref C13) = true)
  (xb13 : PySem.W.subIn K (.ref C13) (.type "BaseException") = some true)
  (xt13 : PySem.W.typeIn K (.ref C13) = some (.type "type"))
  (xc13 : PySem.W.isClsIn K C13 = true)
  (xe13 : PySem.W.excIn K C13 [.type "ValueError", .type "Exception", .type "BaseException", .type "object"] "ValueError.__new__" = true)
  (xa15 : PySem.W.nsIn K mainGlobals ("NothingAsked" : Str) = some (some (.ref C15)))
  (xk15 : PySem.W.keepIn K (.ref C15) = true)
  (xb15 : PySem.W.subIn K (.ref C15) (.type "BaseException") = some true)
  (xt15 : PySem.W.typeIn K (.ref C15) = some (.type "type"))
  (xc15 : PySem.W.isClsIn K C15 = true)
  (xe15 : PySem.W.excIn K C15 [.type "ValueError", .type "Exception", .type "BaseException", .type "object"] "ValueError.__new__" = true)
  (xa16 : PySem.W.nsIn K mainGlobals ("BadAnswer" : Str) = some (some (.ref C16)))
  (xk16 : PySem.W.keepIn K (.ref C16) = true)
  (xb16 : PySem.W.subIn K (.ref C16) (.type "BaseException") = some true)
  (xt16 : PySem.W.typeIn K (.ref C16) = some (.type "type"))
  (xc16 : PySem.W.isClsIn K C16 = true)
  (xe16 : PySem.W.excIn K C16 [.type "ValueError", .type "Exception", .type "BaseException", .type "object"] "ValueError.__new__" = true)
  (xa18 : PySem.W.nsIn K mainGlobals ("InvalidLine" : Str) = some (some (.ref C18)))
  (xk18 : PySem.W.keepIn K (.ref C18) = true)
  (xb18 : PySem.W.subIn K (.ref C18) (.type "BaseException") = some true)
  (xt18 : PySem.W.typeIn K (.ref C18) = some (.type "type"))
  (xc18 : PySem.W.isClsIn K C18 = true)
  (xo18 : K.lookup C18 = some (excClassObj nx18 qx18 C18 Nx18 bx18 bmx18 true snx18 subx18 abx18 colx18 ddx18 k0x18 k1x18 k2x18 k3x18 k5x18 "ValueError.__new__"))
  (xr18 : PySem.HandSPX.refsVE bmx18 = true)
  (xsa18 : PySem.W.findIn K (.ref C18) "__setattr__" = some (some (.builtin "object.__setattr__")))
  (xga18 : PySem.W.findIn K (.ref C18) "__getattribute__" = some (some (.builtin "BaseException.__getattribute__")))
  (xgg18 : PySem.W.findIn K (.ref C18) "__getattr__" = some none)
  (xhd18 : PySem.W.hasDictIn K C18 = true)
  (xno18 : PySem.W.findIn K (.ref C18) ("line" : Str) = some none)
  (xin18 : PySem.W.findIn K (.ref C18) "__init__" = some (some (.ref fx18)))
  (xit18 : PySem.W.typeIn K (.ref fx18) = some (.type "function"))
  (xfn18 : K.lookup fx18 = some ⟨ocx18, odx18, .func (PySem.W.ksFn "__init__" ("InvalidLine.__init__" : Str) (defArgs xz18) (defBody xz18) (defScope xz18) .none kVx18 docx18 pmx18 anx18 (.ref cx18) ctx18 ux18), oslx18⟩)
  (xcd18 : PySem.W.codeIn K (.ref cx18) ("InvalidLine.__init__" : Str) = true)
  (xcl18 : K.lookup cx18 = some ⟨cclx18, clx18, .fields vsx18, ccsx18⟩)
  (xvs18 : vsx18[2]? = some (.str filex18 tfx18))
  (xff18 : ((P.main.file : Str) == filex18) = true)
  (xce18 : K.lookup ux18 = some ⟨ccx18, cldx18, .cell (some (.ref C18)), cslx18⟩)
  (xmr18 : PySem.W.mroIn K C18 (.ref C18) = some true)
  (xsu18 : PySem.W.ks_superIn K C18 C18 "__init__" = some (some (.builtin "ValueError.__init__")))
  (xsv18 : PySem.W.subIn K (.ref C18) (.type "ValueError") = some true)
  (xtop : (P.main.scope.names.lookup ("super" : Str)).isSome = false)
  (xmg : PySem.W.nsIn K mainGlobals "super" = some none)
  (xop : PySem.W.nsIn K cStatics "thirdparty.any" = some none)
  (aC : PySem.W.nsIn K mainGlobals ("_law_classes" : Str) = some (some (.ref fC)))
  (FC : L2.Fun K ("_law_classes" : Str) ("_law_classes" : Str) zsC fC dC)
  (aF : PySem.W.nsIn K mainGlobals ("_law_field" : Str) = some (some (.ref fF)))
  (FF : L2.Fun K ("_law_field" : Str) ("_law_field" : Str) zsF fF dF)
  (zValueError : PySem.W.nsIn K mainGlobals "ValueError" = some none)
  (yn : PySem.W.specialIn K (.builtin "object.__class__") "__get__" = some (some (.builtin "getset_descriptor.__get__")))
  (yt : PySem.W.takesIn K (.builtin "object.__class__") = some true)
  (yg0 : PySem.W.findIn K (.ref C0) "__getattribute__" = some (some (.builtin "BaseException.__getattribute__")))
  (yk0 : PySem.W.findIn K (.ref C0) "__getattr__" = some none)
  (yd0 : PySem.W.hasDictIn K C0 = true)
  (ya0 : PySem.W.findIn K (.ref C0) "__class__" = some (some (.builtin "object.__class__")))
  (ym0 : PySem.W.mroIn K C0 (.type "object") = some true)
  (yv0 : PySem.W.kitOne K (.ref C0) (.type "ValueError") = some true)
  (yg1 : PySem.W.findIn K (.ref C1) "__getattribute__" = some (some (.builtin "BaseException.__getattribute__")))
  (yk1 : PySem.W.findIn K (.ref C1) "__getattr__" = some none)
  (yd1 : PySem.W.hasDictIn K C1 = true)
  (ya1 : PySem.W.findIn K (.ref C1) "__class__" = some (some (.builtin "object.__class__")))
  (ym1 : PySem.W.mroIn K C1 (.type "object") = some true)
  (yv1 : PySem.W.kitOne K (.ref C1) (.type "ValueError") = some true)
  (yg2 : PySem.W.findIn K (.ref C2) "__getattribute__" = some (some (.builtin "BaseException.__getattribute__")))
  (yk2 : PySem.W.findIn K (.ref C2) "__getattr__" = some none)
  (yd2 : PySem.W.hasDictIn K C2 = true)
  (ya2 : PySem.W.findIn K (.ref C2) "__class__" = some (some (.builtin "object.__class__")))
  (ym2 : PySem.W.mroIn K C2 (.type "object") = some true)
  (yv2 : PySem.W.kitOne K (.ref C2) (.type "ValueError") = some true)
  (yg3 : PySem.W.findIn K (.ref C3) "__getattribute__" = some (some (.builtin "BaseException.__getattribute__")))
  (yk3 : PySem.W.findIn K (.ref C3) "__getattr__" = some none)
  (yd3 : PySem.W.hasDictIn K C3 = true)
  (ya3 : PySem.W.findIn K (.ref C3) "__class__" = some (some (.builtin "object.__class__")))
  (ym3 : PySem.W.mroIn K C3 (.type "object") = some true)
  (yv3 : PySem.W.kitOne K (.ref C3) (.type "ValueError") = some true)
  (yg4 : PySem.W.findIn K (.ref C4) "__getattribute__" = some (some (.builtin "BaseException.__getattribute__")))
  (yk4 : PySem.W.findIn K (.ref C4) "__getattr__" = some none)
  (yd4 : PySem.W.hasDictIn K C4 = true)
  (ya4 : PySem.W.findIn K (.ref C4) "__class__" = some (some (.builtin "object.__class__")))
  (ym4 : PySem.W.mroIn K C4 (.type "object") = some true)
  (yv4 : PySem.W.kitOne K (.ref C4) (.type "ValueError") = some true)
  (yg12 : PySem.W.findIn K (.ref C12) "__getattribute__" = some (some (.builtin "BaseException.__getattribute__")))
  (yk12 : PySem.W.findIn K (.ref C12) "__getattr__" = some none)
  (yd12 : PySem.W.hasDictIn K C12 = true)
  (ya12 : PySem.W.findIn K (.ref C12) "__class__" = some (some (.builtin "object.__class__")))
  (ym12 : PySem.W.mroIn K C12 (.type "object") = some true)
  (yv12 : PySem.W.kitOne K (.ref C12) (.type "ValueError") = some true)
  (yg13 : PySem.W.findIn K (.ref C13) "__getattribute__" = some (some (.builtin "BaseException.__getattribute__")))
  (yk13 : PySem.W.findIn K (.ref C13) "__getattr__" = some none)
  (yd13 : PySem.W.hasDictIn K C13 = true)
  (ya13 : PySem.W.findIn K (.ref C13) "__class__" = some (some (.builtin "object.__class__")))
  (ym13 : PySem.W.mroIn K C13 (.type "object") = some true)
  (yv13 : PySem.W.kitOne K (.ref C13) (.type "ValueError") = some true)
  (yg15 : PySem.W.findIn K (.ref C15) "__getattribute__" = some (some (.builtin "BaseException.__getattribute__")))
  (yk15 : PySem.W.findIn K (.ref C15) "__getattr__" = some none)
  (yd15 : PySem.W.hasDictIn K C15 = true)
  (ya15 : PySem.W.findIn K (.ref C15) "__class__" = some (some (.builtin "object.__class__")))
  (ym15 : PySem.W.mroIn K C15 (.type "object") = some true)
  (yv15 : PySem.W.kitOne K (.ref C15) (.type "ValueError") = some true)
  (yg16 : PySem.W.findIn K (.ref C16) "__getattribute__" = some (some (.builtin "BaseException.__getattribute__")))
  (yk16 : PySem.W.findIn K (.ref C16) "__getattr__" = some none)
  (yd16 : PySem.W.hasDictIn K C16 = true)
  (ya16 : PySem.W.findIn K (.ref C16) "__class__" = some (some (.builtin "object.__class__")))
  (ym16 : PySem.W.mroIn K C16 (.type "object") = some true)
  (yv16 : PySem.W.kitOne K (.ref C16) (.type "ValueError") = some true)
  (yg18 : PySem.W.findIn K (.ref C18) "__getattribute__" = some (some (.builtin "BaseException.__getattribute__")))
  (yk18 : PySem.W.findIn K (.ref C18) "__getattr__" = some none)
  (yd18 : PySem.W.hasDictIn K C18 = true)
  (ya18 : PySem.W.findIn K (.ref C18) "__class__" = some (some (.builtin "object.__class__")))
  (ym18 : PySem.W.mroIn K C18 (.type "object") = some true)
  (yv18 : PySem.W.kitOne K (.ref C18) (.type "ValueError") = some true)
  (xs0_0 : PySem.W.subIn K (.ref C0) (.ref C0) = some true)
  (xs0_1 : PySem.W.subIn K (.ref C0) (.ref C1) = some false)
  (xs0_2 : PySem.W.subIn K (.ref C0) (.ref C2) = some false)
  (xs0_3 : PySem.W.subIn K (.ref C0) (.ref C3) = some false)
  (xs0_4 : PySem.W.subIn K (.ref C0) (.ref C4) = some false)
  (xs0_12 : PySem.W.subIn K (.ref C0) (.ref C12) = some false)
  (xs0_13 : PySem.W.subIn K (.ref C0) (.ref C13) = some false)
  (xs0_15 : PySem.W.subIn K (.ref C0) (.ref C15) = some false)
  (xs0_16 : PySem.W.subIn K (.ref C0) (.ref C16) = some false)
  (xs0_18 : PySem.W.subIn K (.ref C0) (.ref C18) = some false)
  (xs1_0 : PySem.W.subIn K (.ref C1) (.ref C0) = some true)
  (xs1_1 : PySem.W.subIn K (.ref C1) (.ref C1) = some true)
  (xs1_2 : PySem.W.subIn K (.ref C1) (.ref C2) = some false)
  (xs1_3 : PySem.W.subIn K (.ref C1) (.ref C3) = some false)
  (xs1_4 : PySem.W.subIn K (.ref C1) (.ref C4) = some false)
  (xs1_12 : PySem.W.subIn K (.ref C1) (.ref C12) = some false)
  (xs1_13 : PySem.W.subIn K (.ref C1) (.ref C13) = some false)
  (xs1_15 : PySem.W.subIn K (.ref C1) (.ref C15) = some false)
  (xs1_16 : PySem.W.subIn K (.ref C1) (.ref C16) = some false)
  (xs1_18 : PySem.W.subIn K (.ref C1) (.ref C18) = some false)
  (xs2_0 : PySem.W.subIn K (.ref C2) (.ref C0) = some true)
  (xs2_1 : PySem.W.subIn K (.ref C2) (.ref C1) = some false)
  (xs2_2 : PySem.W.subIn K (.ref C2) (.ref C2) = some true)
  (xs2_3 : PySem.W.subIn K (.ref C2) (.ref C3) = some false)
  (xs2_4 : PySem.W.subIn K (.ref C2) (.ref C4) = some false)
  (xs2_12 : PySem.W.subIn K (.ref C2) (.ref C12) = some false)
  (xs2_13 : PySem.W.subIn K (.ref C2) (.ref C13) = some false)
  (xs2_15 : PySem.W.subIn K (.ref C2) (.ref C15) = some false)
  (xs2_16 : PySem.W.subIn K (.ref C2) (.ref C16) = some false)
  (xs2_18 : PySem.W.subIn K (.ref C2) (.ref C18) = some false)
  (xs3_0 : PySem.W.subIn K (.ref C3) (.ref C0) = some true)
  (xs3_1 : PySem.W.subIn K (.ref C3) (.ref C1) = some false)
  (xs3_2 : PySem.W.subIn K (.ref C3) (.ref C2) = some false)
  (xs3_3 : PySem.W.subIn K (.ref C3) (.ref C3) = some true)
  (xs3_4 : PySem.W.subIn K (.ref C3) (.ref C4) = some false)
  (xs3_12 : PySem.W.subIn K (.ref C3) (.ref C12) = some false)
  (xs3_13 : PySem.W.subIn K (.ref C3) (.ref C13) = some false)
  (xs3_15 : PySem.W.subIn K (.ref C3) (.ref C15) = some false)
  (xs3_16 : PySem.W.subIn K (.ref C3) (.ref C16) = some false)
  (xs3_18 : PySem.W.subIn K (.ref C3) (.ref C18) = some false)
  (xs4_0 : PySem.W.subIn K (.ref C4) (.ref C0) = some true)
  (xs4_1 : PySem.W.subIn K (.ref C4) (.ref C1) = some false)
  (xs4_2 : PySem.W.subIn K (.ref C4) (.ref C2) = some false)
  (xs4_3 : PySem.W.subIn K (.ref C4) (.ref C3) = some false)
  (xs4_4 : PySem.W.subIn K (.ref C4) (.ref C4) = some true)
  (xs4_12 : PySem.W.subIn K (.ref C4) (.ref C12) = some false)
  (xs4_13 : PySem.W.subIn K (.ref C4) (.ref C13) = some false)
  (xs4_15 : PySem.W.subIn K (.ref C4) (.ref C15) = some false)
  (xs4_16 : PySem.W.subIn K (.ref C4) (.ref C16) = some false)
  (xs4_18 : PySem.W.subIn K (.ref C4) (.ref C18) = some false)
  (xs12_0 : PySem.W.subIn K (.ref C12) (.ref C0) = some true)
  (xs12_1 : PySem.W.subIn K (.ref C12) (.ref C1) = some false)
  (xs12_2 : PySem.W.subIn K (.ref C12) (.ref C2) = some false)
  (xs12_3 : PySem.W.subIn K (.ref C12) (.ref C3) = some false)
  (xs12_4 : PySem.W.subIn K (.ref C12) (.ref C4) = some false)
  (xs12_12 : PySem.W.subIn K (.ref C12) (.ref C12) = some true)
  (xs12_13 : PySem.W.subIn K (.ref C12) (.ref C13) = some false)
  (xs12_15 : PySem.W.subIn K (.ref C12) (.ref C15) = some false)
  (xs12_16 : PySem.W.subIn K (.ref C12) (.ref C16) = some false)
  (xs12_18 : PySem.W.subIn K (.ref C12) (.ref C18) = some false)
  (xs13_0 : PySem.W.subIn K (.ref C13) (.ref C0) = some true)
  (xs13_1 : PySem.W.subIn K (.ref C13) (.ref C1) = some false)
  (xs13_2 : PySem.W.subIn K (.ref C13) (.ref C2) = some false)
  (xs13_3 : PySem.W.subIn K (.ref C13) (.ref C3) = some false)
  (xs13_4 : PySem.W.subIn K (.ref C13) (.ref C4) = some false)
  (xs13_12 : PySem.W.subIn K (.ref C13) (.ref C12) = some false)
  (xs13_13 : PySem.W.subIn K (.ref C13) (.ref C13) = some true)
  (xs13_15 : PySem.W.subIn K (.ref C13) (.ref C15) = some false)
  (xs13_16 : PySem.W.subIn K (.ref C13) (.ref C16) = some false)
  (xs13_18 : PySem.W.subIn K (.ref C13) (.ref C18) = some false)
  (xs15_0 : PySem.W.subIn K (.ref C15) (.ref C0) = some true)
  (xs15_1 : PySem.W.subIn K (.ref C15) (.ref C1) = some false)
  (xs15_2 : PySem.W.subIn K (.ref C15) (.ref C2) = some false)
  (xs15_3 : PySem.W.subIn K (.ref C15) (.ref C3) = some false)
  (xs15_4 : PySem.W.subIn K (.ref C15) (.ref C4) = some false)
  (xs15_12 : PySem.W.subIn K (.ref C15) (.ref C12) = some false)
  (xs15_13 : PySem.W.subIn K (.ref C15) (.ref C13) = some false)
  (xs15_15 : PySem.W.subIn K (.ref C15) (.ref C15) = some true)
  (xs15_16 : PySem.W.subIn K (.ref C15) (.ref C16) = some false)
  (xs15_18 : PySem.W.subIn K (.ref C15) (.ref C18) = some false)
  (xs16_0 : PySem.W.subIn K (.ref C16) (.ref C0) = some true)
  (xs16_1 : PySem.W.subIn K (.ref C16) (.ref C1) = some false)
  (xs16_2 : PySem.W.subIn K (.ref C16) (.ref C2) = some false)
  (xs16_3 : PySem.W.subIn K (.ref C16) (.ref C3) = some false)
  (xs16_4 : PySem.W.subIn K (.ref C16) (.ref C4) = some false)
  (xs16_12 : PySem.W.subIn K (.ref C16) (.ref C12) = some false)
  (xs16_13 : PySem.W.subIn K (.ref C16) (.ref C13) = some false)
  (xs16_15 : PySem.W.subIn K (.ref C16) (.ref C15) = some false)
  (xs16_16 : PySem.W.subIn K (.ref C16) (.ref C16) = some true)
  (xs16_18 : PySem.W.subIn K (.ref C16) (.ref C18) = some false)
  (xs18_0 : PySem.W.subIn K (.ref C18) (.ref C0) = some true)
  (xs18_1 : PySem.W.subIn K (.ref C18) (.ref C1) = some false)
  (xs18_2 : PySem.W.subIn K (.ref C18) (.ref C2) = some false)
  (xs18_3 : PySem.W.subIn K (.ref C18) (.ref C3) = some false)
  (xs18_4 : PySem.W.subIn K (.ref C18) (.ref C4) = some false)
  (xs18_12 : PySem.W.subIn K (.ref C18) (.ref C12) = some false)
  (xs18_13 : PySem.W.subIn K (.ref C18) (.ref C13) = some false)
  (xs18_15 : PySem.W.subIn K (.ref C18) (.ref C15) = some false)
  (xs18_16 : PySem.W.subIn K (.ref C18) (.ref C16) = some false)
  (xs18_18 : PySem.W.subIn K (.ref C18) (.ref C18) = some true)
  (zlen : PySem.W.nsIn K mainGlobals ("len" : Str) = some none)
  (zlist : PySem.W.nsIn K mainGlobals ("list" : Str) = some none)
  (ztuple : PySem.W.nsIn K mainGlobals ("tuple" : Str) = some none)
  (zsorted : PySem.W.nsIn K mainGlobals ("sorted" : Str) = some none)
  (zdict : PySem.W.nsIn K mainGlobals ("dict" : Str) = some none)
  (zsum : PySem.W.nsIn K mainGlobals ("sum" : Str) = some none)
  (zmax : PySem.W.nsIn K mainGlobals ("max" : Str) = some none)
  (zmin : PySem.W.nsIn K mainGlobals ("min" : Str) = some none)
  (zabs : PySem.W.nsIn K mainGlobals ("abs" : Str) = some none)
  (zint : PySem.W.nsIn K mainGlobals ("int" : Str) = some none)
  (zstr : PySem.W.nsIn K mainGlobals ("str" : Str) = some none)
  (zall : PySem.W.nsIn K mainGlobals ("all" : Str) = some none)
  (zany : PySem.W.nsIn K mainGlobals ("any" : Str) = some none)
  (zset : PySem.W.nsIn K mainGlobals ("set" : Str) = some none)
  (zzip : PySem.W.nsIn K mainGlobals ("zip" : Str) = some none)
  (zrange : PySem.W.nsIn K mainGlobals ("range" : Str) = some none)
  (zenumerate : PySem.W.nsIn K mainGlobals ("enumerate" : Str) = some none)
  (zisinstance : PySem.W.nsIn K mainGlobals ("isinstance" : Str) = some none)
  (zbool : PySem.W.nsIn K mainGlobals ("bool" : Str) = some none) :
  ∃ fd : FuncData, (∀ (s : Shared) (u : Value), BindsTo s fd ⟨[u], []⟩ [("_law_script", u)]) ∧ ∀ base : Heap, K.In base → base.Ns mainGlobals mg → FnOk P w K mg base (L2N.CX P w) (3 * NN + 3) fa fd ["_law_script"] (spL K) := by
  have e := hfa.symm.trans (PySem.W.mg_of X G a56)
  have e2 : fa = f56 := by cases e; rfl
  rw [e2]
  have xT3 : L2.OexC K C3 := ⟨⟨_, _, _, _, _, _, _, _, _, _, _, _, _, _, _, xo3, xr3⟩, xsa3, xb3, xt3, xk3⟩
  have xF3 : CF.XFun P K mg ("BadBody.__init__" : Str) xz3 fx3 C3 _ ("index" : Str) := ⟨xT3, xno3, ⟨_, _, _, _, _, _, _, _, _, _, _, _, _, _, _, _, _, _, _, _, rfl, xfn3, xcd3, xcl3, xvs3, xff3, xce3⟩, xtop, PySem.W.mg_none_of X G xmg, xmr3, xsu3, xsv3, xop⟩
  have xI3 : CF.ExI P w K mg C3 ("index" : Str) := ⟨⟨fx3, _, [("self" : Str), ("index" : Str)], fun base Y k => xi_fn (N := [("self" : Str), ("index" : Str), ("__class__" : Str)]) xF3 (nscope_3) (by decide) rfl rfl rfl rfl rfl (by decide) (by decide) (by decide) (by decide), .all (fun us hl => match us, hl with | [_, _], _ => rfl), xin3, xit3⟩, xT3, ⟨xga3, xgg3, xb3, xhd3⟩, xno3⟩
  have xT18 : L2.OexC K C18 := ⟨⟨_, _, _, _, _, _, _, _, _, _, _, _, _, _, _, xo18, xr18⟩, xsa18, xb18, xt18, xk18⟩
  have xF18 : CF.XFun P K mg ("InvalidLine.__init__" : Str) xz18 fx18 C18 _ ("line" : Str) := ⟨xT18, xno18, ⟨_, _, _, _, _, _, _, _, _, _, _, _, _, _, _, _, _, _, _, _, rfl, xfn18, xcd18, xcl18, xvs18, xff18, xce18⟩, xtop, PySem.W.mg_none_of X G xmg, xmr18, xsu18, xsv18, xop⟩
  have xI18 : CF.ExI P w K mg C18 ("line" : Str) := ⟨⟨fx18, _, [("self" : Str), ("line" : Str)], fun base Y k => xi_fn (N := [("self" : Str), ("line" : Str), ("__class__" : Str)]) xF18 (nscope_18) (by decide) rfl rfl rfl rfl rfl (by decide) (by decide) (by decide) (by decide), .all (fun us hl => match us, hl with | [_, _], _ => rfl), xin18, xit18⟩, xT18, ⟨xga18, xgg18, xb18, xhd18⟩, xno18⟩
  let W : Wld := mkW P w K mg [(37, f37), (38, f38), (39, f39), (40, f40), (142, f142), (56, f56)] [(37, d37), (38, d38), (39, d39), (40, d40), (142, d142), (56, d56)] d56 [] [(0, C0), (1, C1), (2, C2), (3, C3), (4, C4), (12, C12), (13, C13), (15, C15), (16, C16), (18, C18)] (fun _ => none)
  have bi37 := F37.binds (ps := [("_law_script" : Str), ("_law_salt" : Str)]) fun _ _ _ _ _ _ us hl => match us, hl with | [_, _], _ => rfl
  have bi38 := F38.binds (ps := [("_law_d" : Str), ("_law_size" : Str)]) fun _ _ _ _ _ _ us hl => match us, hl with | [_, _], _ => rfl
  have bi39 := F39.binds (ps := [("_law_d" : Str), ("_law_items" : Str)]) fun _ _ _ _ _ _ us hl => match us, hl with | [_, _], _ => rfl
  have bi40 := F40.binds (ps := [("_law_actual" : Str), ("_law_expected" : Str)]) fun _ _ _ _ _ _ us hl => match us, hl with | [_, _], _ => rfl
  have bi142 := F142.binds (ps := [("_law_k" : Str), ("_law_one" : Str)]) fun _ _ _ _ _ _ us hl => match us, hl with | [_, _], _ => rfl
  have bi56 := F56.binds (ps := [("_law_script" : Str)]) fun _ _ _ _ _ _ us hl => match us, hl with | [_], _ => rfl
  have wok0 : WOk W := {
    hx := fun j p h => by
      have h2 : (none : Option HSt) = some p := h
      cases h2
    ok0 := fun a d e => by cases e
    gf := fun f hf => allL_get (P := fun f x => mg x = some (.ref (W.ad f)) ∧ PySem.W.keepIn K (.ref (W.ad f)) = true) (l := gnl) ⟨⟨PySem.W.mg_of X G a37, F37.kp⟩, ⟨PySem.W.mg_of X G a38, F38.kp⟩, ⟨PySem.W.mg_of X G a39, F39.kp⟩, ⟨PySem.W.mg_of X G a40, F40.kp⟩, ⟨PySem.W.mg_of X G a142, F142.kp⟩, ⟨PySem.W.mg_of X G a56, F56.kp⟩, trivial⟩ hf
    cl := fun c C e => by
      have q2 : (none : Option Addr) = some C := e
      cases q2
    at_ := fun c C a e q => by
      have q2 : (none : Option (Option Nat)) = some none := q
      cases q2
    pr := fun c C a f e q => by
      have q2 : (none : Option (Option Nat)) = some (some f) := q
      cases q2
    me := fun c C m f e q => by
      have q2 : (none : Option Nat) = some f := q
      cases q2
    mkc := fun c f q => by
      have q2 : (none : Option Nat) = some f := q
      cases q2
    nm := fun m a => nameOf_ne (by decide +kernel) (by decide +kernel) (by decide +kernel)
    inj := fun a b e => nameOf_inj (by decide +kernel) (by decide +kernel) e
    eq := fun c C f e q => by cases q
    eqt := fun c C f e q => by cases q
    len := fun c C f e q => by cases q
    iB := fun c C e => by cases e
    iO := fun c C c2 C2 e => by cases e
    iG := fun c C e => by cases e
    gc := fun x d e => by
      have q2 : (none : Option D) = some d := e
      cases q2
    kd := fun x l e => by
      have q2 : (none : Option (List (List Nat × D))) = some l := e
      cases q2
    ex := fun c fs e => allL_at (P := fun c (fs : List Nat) => ∃ C, W.xls c = some C ∧ mg (W.cn c) = some (.ref C) ∧ PySem.W.keepIn K (.ref C) = true ∧ PySem.W.subIn K (.ref C) (.type "BaseException") = some true ∧ PySem.W.typeIn K (.ref C) = some (.type "type")) (l := exl) ⟨⟨C0, rfl, PySem.W.mg_of X G xa0, xk0, xb0, xt0⟩, ⟨C1, rfl, PySem.W.mg_of X G xa1, xk1, xb1, xt1⟩, ⟨C2, rfl, PySem.W.mg_of X G xa2, xk2, xb2, xt2⟩, ⟨C3, rfl, PySem.W.mg_of X G xa3, xk3, xb3, xt3⟩, ⟨C4, rfl, PySem.W.mg_of X G xa4, xk4, xb4, xt4⟩, ⟨C12, rfl, PySem.W.mg_of X G xa12, xk12, xb12, xt12⟩, ⟨C13, rfl, PySem.W.mg_of X G xa13, xk13, xb13, xt13⟩, ⟨C15, rfl, PySem.W.mg_of X G xa15, xk15, xb15, xt15⟩, ⟨C16, rfl, PySem.W.mg_of X G xa16, xk16, xb16, xt16⟩, ⟨C18, rfl, PySem.W.mg_of X G xa18, xk18, xb18, xt18⟩, trivial⟩ e
    ex0 := fun c C e q => allL_at (P := fun c C => T.exf c = some [] → ∃ B newId initId bmB, ExcBaseFacts B newId initId bmB ∧ PySem.W.excIn K C bmB newId = true) (l := [(0, C0), (1, C1), (2, C2), (3, C3), (4, C4), (12, C12), (13, C13), (15, C15), (16, C16), (18, C18)]) ⟨fun _ => ⟨_, _, _, _, PySem.F.excBase_ValueError, xe0⟩, fun _ => ⟨_, _, _, _, PySem.F.excBase_ValueError, xe1⟩, fun _ => ⟨_, _, _, _, PySem.F.excBase_ValueError, xe2⟩, (fun z => absurd z (by decide)), fun _ => ⟨_, _, _, _, PySem.F.excBase_ValueError, xe4⟩, fun _ => ⟨_, _, _, _, PySem.F.excBase_ValueError, xe12⟩, fun _ => ⟨_, _, _, _, PySem.F.excBase_ValueError, xe13⟩, fun _ => ⟨_, _, _, _, PySem.F.excBase_ValueError, xe15⟩, fun _ => ⟨_, _, _, _, PySem.F.excBase_ValueError, xe16⟩, (fun z => absurd z (by decide)), trivial⟩ q e
    ex1 := fun c b C e q => allL_at (P := fun c C => ∀ b, T.exf c = some [b] → CF.ExI P w K mg C (W.an b)) (l := [(0, C0), (1, C1), (2, C2), (3, C3), (4, C4), (12, C12), (13, C13), (15, C15), (16, C16), (18, C18)]) ⟨(fun b z => by cases z), (fun b z => by cases z), (fun b z => by cases z), (fun b z => by cases z; exact xI3), (fun b z => by cases z), (fun b z => by cases z), (fun b z => by cases z), (fun b z => by cases z), (fun b z => by cases z), (fun b z => by cases z; exact xI18), trivial⟩ q b e
    exs := fun c h C Ch _ _ q1 q2 => allL_at (P := fun h Ch => PySem.W.exmOne K (.ref C) (.ref Ch) = some (T.sup c h)) (allL_at (P := fun c C => allL (fun h Ch => PySem.W.exmOne K (.ref C) (.ref Ch) = some (T.sup c h)) [(0, C0), (1, C1), (2, C2), (3, C3), (4, C4), (12, C12), (13, C13), (15, C15), (16, C16), (18, C18)]) (l := [(0, C0), (1, C1), (2, C2), (3, C3), (4, C4), (12, C12), (13, C13), (15, C15), (16, C16), (18, C18)]) ⟨⟨exm_of xb0 xc0 xt0 xs0_0, exm_of xb1 xc1 xt1 xs0_1, exm_of xb2 xc2 xt2 xs0_2, exm_of xb3 xc3 xt3 xs0_3, exm_of xb4 xc4 xt4 xs0_4, exm_of xb12 xc12 xt12 xs0_12, exm_of xb13 xc13 xt13 xs0_13, exm_of xb15 xc15 xt15 xs0_15, exm_of xb16 xc16 xt16 xs0_16, exm_of xb18 xc18 xt18 xs0_18, trivial⟩, ⟨exm_of xb0 xc0 xt0 xs1_0, exm_of xb1 xc1 xt1 xs1_1, exm_of xb2 xc2 xt2 xs1_2, exm_of xb3 xc3 xt3 xs1_3, exm_of xb4 xc4 xt4 xs1_4, exm_of xb12 xc12 xt12 xs1_12, exm_of xb13 xc13 xt13 xs1_13, exm_of xb15 xc15 xt15 xs1_15, exm_of xb16 xc16 xt16 xs1_16, exm_of xb18 xc18 xt18 xs1_18, trivial⟩, ⟨exm_of xb0 xc0 xt0 xs2_0, exm_of xb1 xc1 xt1 xs2_1, exm_of xb2 xc2 xt2 xs2_2, exm_of xb3 xc3 xt3 xs2_3, exm_of xb4 xc4 xt4 xs2_4, exm_of xb12 xc12 xt12 xs2_12, exm_of xb13 xc13 xt13 xs2_13, exm_of xb15 xc15 xt15 xs2_15, exm_of xb16 xc16 xt16 xs2_16, exm_of xb18 xc18 xt18 xs2_18, trivial⟩, ⟨exm_of xb0 xc0 xt0 xs3_0, exm_of xb1 xc1 xt1 xs3_1, exm_of xb2 xc2 xt2 xs3_2, exm_of xb3 xc3 xt3 xs3_3, exm_of xb4 xc4 xt4 xs3_4, exm_of xb12 xc12 xt12 xs3_12, exm_of xb13 xc13 xt13 xs3_13, exm_of xb15 xc15 xt15 xs3_15, exm_of xb16 xc16 xt16 xs3_16, exm_of xb18 xc18 xt18 xs3_18, trivial⟩, ⟨exm_of xb0 xc0 xt0 xs4_0, exm_of xb1 xc1 xt1 xs4_1, exm_of xb2 xc2 xt2 xs4_2, exm_of xb3 xc3 xt3 xs4_3, exm_of xb4 xc4 xt4 xs4_4, exm_of xb12 xc12 xt12 xs4_12, exm_of xb13 xc13 xt13 xs4_13, exm_of xb15 xc15 xt15 xs4_15, exm_of xb16 xc16 xt16 xs4_16, exm_of xb18 xc18 xt18 xs4_18, trivial⟩, ⟨exm_of xb0 xc0 xt0 xs12_0, exm_of xb1 xc1 xt1 xs12_1, exm_of xb2 xc2 xt2 xs12_2, exm_of xb3 xc3 xt3 xs12_3, exm_of xb4 xc4 xt4 xs12_4, exm_of xb12 xc12 xt12 xs12_12, exm_of xb13 xc13 xt13 xs12_13, exm_of xb15 xc15 xt15 xs12_15, exm_of xb16 xc16 xt16 xs12_16, exm_of xb18 xc18 xt18 xs12_18, trivial⟩, ⟨exm_of xb0 xc0 xt0 xs13_0, exm_of xb1 xc1 xt1 xs13_1, exm_of xb2 xc2 xt2 xs13_2, exm_of xb3 xc3 xt3 xs13_3, exm_of xb4 xc4 xt4 xs13_4, exm_of xb12 xc12 xt12 xs13_12, exm_of xb13 xc13 xt13 xs13_13, exm_of xb15 xc15 xt15 xs13_15, exm_of xb16 xc16 xt16 xs13_16, exm_of xb18 xc18 xt18 xs13_18, trivial⟩, ⟨exm_of xb0 xc0 xt0 xs15_0, exm_of xb1 xc1 xt1 xs15_1, exm_of xb2 xc2 xt2 xs15_2, exm_of xb3 xc3 xt3 xs15_3, exm_of xb4 xc4 xt4 xs15_4, exm_of xb12 xc12 xt12 xs15_12, exm_of xb13 xc13 xt13 xs15_13, exm_of xb15 xc15 xt15 xs15_15, exm_of xb16 xc16 xt16 xs15_16, exm_of xb18 xc18 xt18 xs15_18, trivial⟩, ⟨exm_of xb0 xc0 xt0 xs16_0, exm_of xb1 xc1 xt1 xs16_1, exm_of xb2 xc2 xt2 xs16_2, exm_of xb3 xc3 xt3 xs16_3, exm_of xb4 xc4 xt4 xs16_4, exm_of xb12 xc12 xt12 xs16_12, exm_of xb13 xc13 xt13 xs16_13, exm_of xb15 xc15 xt15 xs16_15, exm_of xb16 xc16 xt16 xs16_16, exm_of xb18 xc18 xt18 xs16_18, trivial⟩, ⟨exm_of xb0 xc0 xt0 xs18_0, exm_of xb1 xc1 xt1 xs18_1, exm_of xb2 xc2 xt2 xs18_2, exm_of xb3 xc3 xt3 xs18_3, exm_of xb4 xc4 xt4 xs18_4, exm_of xb12 xc12 xt12 xs18_12, exm_of xb13 xc13 xt13 xs18_13, exm_of xb15 xc15 xt15 xs18_15, exm_of xb16 xc16 xt16 xs18_16, exm_of xb18 xc18 xt18 xs18_18, trivial⟩, trivial⟩ q1) q2 }
  have mk0 : NmsOk2 nms0 W := {
    hs := rfl
    gn := rfl, isG := rfl, cn := rfl, mn := rfl, an := rfl, gc := rfl, kd := rfl, isC := rfl, exf := rfl
    only := fun h e c q s => CF.only_of (l := exl) (o := onl) (sup := T.sup) (by decide) h e c q s
    bi := fun x e => allM_at (P := fun x => mg x = none) (l := bil) ⟨PySem.W.mg_none_of X G zlen, PySem.W.mg_none_of X G zlist, PySem.W.mg_none_of X G ztuple, PySem.W.mg_none_of X G zsorted, PySem.W.mg_none_of X G zdict, PySem.W.mg_none_of X G zsum, PySem.W.mg_none_of X G zmax, PySem.W.mg_none_of X G zmin, PySem.W.mg_none_of X G zabs, PySem.W.mg_none_of X G zint, PySem.W.mg_none_of X G zstr, PySem.W.mg_none_of X G zall, PySem.W.mg_none_of X G zany, PySem.W.mg_none_of X G zset, PySem.W.mg_none_of X G zzip, PySem.W.mg_none_of X G zrange, PySem.W.mg_none_of X G zenumerate, PySem.W.mg_none_of X G zisinstance, PySem.W.mg_none_of X G zbool, trivial⟩ e
    clsC := fun c e => by cases e
    hasInit := fun c e => by
      have e' : (inl.lookup c).isSome = true := e
      cases q : inl.lookup c with
      | none => rw [q] at e'; cases e'
      | some f => exact ⟨f, q⟩ }
  let W1 : Wld := { W with hs := fun j => if j = 0 then some p13 else none }
  have ho : HwOk W1 fC fF dC dF := {
    wok := wok0, mks := mk0, noE := fun c => rfl, noL := fun c => rfl, bi := PySem.W.mg_none_of X G zisinstance, bv := PySem.W.mg_none_of X G zValueError, an3 := rfl, an24 := rfl, fnC := FC, fnF := FF, mC := PySem.W.mg_of X G aC, mF := PySem.W.mg_of X G aF
    ec := fun c C e => allL_at (P := fun _ C => ExcC K C) (l := [(0, C0), (1, C1), (2, C2), (3, C3), (4, C4), (12, C12), (13, C13), (15, C15), (16, C16), (18, C18)]) ⟨⟨yg0, yk0, xb0, yd0, ya0, yn, yt, ym0⟩, ⟨yg1, yk1, xb1, yd1, ya1, yn, yt, ym1⟩, ⟨yg2, yk2, xb2, yd2, ya2, yn, yt, ym2⟩, ⟨yg3, yk3, xb3, yd3, ya3, yn, yt, ym3⟩, ⟨yg4, yk4, xb4, yd4, ya4, yn, yt, ym4⟩, ⟨yg12, yk12, xb12, yd12, ya12, yn, yt, ym12⟩, ⟨yg13, yk13, xb13, yd13, ya13, yn, yt, ym13⟩, ⟨yg15, yk15, xb15, yd15, ya15, yn, yt, ym15⟩, ⟨yg16, yk16, xb16, yd16, ya16, yn, yt, ym16⟩, ⟨yg18, yk18, xb18, yd18, ya18, yn, yt, ym18⟩, trivial⟩ e
    ki := fun c C h Ch e e2 => allL_at (P := fun h Ch => h ∈ ordC → PySem.W.kitOne K (.ref C) (.ref Ch) = some (h == c)) (allL_at (P := fun c C => allL (fun h Ch => h ∈ ordC → PySem.W.kitOne K (.ref C) (.ref Ch) = some (h == c)) [(0, C0), (1, C1), (2, C2), (3, C3), (4, C4), (12, C12), (13, C13), (15, C15), (16, C16), (18, C18)]) (l := [(0, C0), (1, C1), (2, C2), (3, C3), (4, C4), (12, C12), (13, C13), (15, C15), (16, C16), (18, C18)]) ⟨⟨fun z => absurd z (by decide), fun _ => kit_ref xc1 xt1 xs0_1 xs0_0, fun _ => kit_ref xc2 xt2 xs0_2 xs0_0, fun _ => kit_ref xc3 xt3 xs0_3 xs0_0, fun _ => kit_ref xc4 xt4 xs0_4 xs0_0, fun _ => kit_ref xc12 xt12 xs0_12 xs0_0, fun _ => kit_ref xc13 xt13 xs0_13 xs0_0, fun _ => kit_ref xc15 xt15 xs0_15 xs0_0, fun _ => kit_ref xc16 xt16 xs0_16 xs0_0, fun _ => kit_ref xc18 xt18 xs0_18 xs0_0, trivial⟩, ⟨fun z => absurd z (by decide), fun _ => kit_ref xc1 xt1 xs1_1 xs1_1, fun _ => kit_ref xc2 xt2 xs1_2 xs1_1, fun _ => kit_ref xc3 xt3 xs1_3 xs1_1, fun _ => kit_ref xc4 xt4 xs1_4 xs1_1, fun _ => kit_ref xc12 xt12 xs1_12 xs1_1, fun _ => kit_ref xc13 xt13 xs1_13 xs1_1, fun _ => kit_ref xc15 xt15 xs1_15 xs1_1, fun _ => kit_ref xc16 xt16 xs1_16 xs1_1, fun _ => kit_ref xc18 xt18 xs1_18 xs1_1, trivial⟩, ⟨fun z => absurd z (by decide), fun _ => kit_ref xc1 xt1 xs2_1 xs2_2, fun _ => kit_ref xc2 xt2 xs2_2 xs2_2, fun _ => kit_ref xc3 xt3 xs2_3 xs2_2, fun _ => kit_ref xc4 xt4 xs2_4 xs2_2, fun _ => kit_ref xc12 xt12 xs2_12 xs2_2, fun _ => kit_ref xc13 xt13 xs2_13 xs2_2, fun _ => kit_ref xc15 xt15 xs2_15 xs2_2, fun _ => kit_ref xc16 xt16 xs2_16 xs2_2, fun _ => kit_ref xc18 xt18 xs2_18 xs2_2, trivial⟩, ⟨fun z => absurd z (by decide), fun _ => kit_ref xc1 xt1 xs3_1 xs3_3, fun _ => kit_ref xc2 xt2 xs3_2 xs3_3, fun _ => kit_ref xc3 xt3 xs3_3 xs3_3, fun _ => kit_ref xc4 xt4 xs3_4 xs3_3, fun _ => kit_ref xc12 xt12 xs3_12 xs3_3, fun _ => kit_ref xc13 xt13 xs3_13 xs3_3, fun _ => kit_ref xc15 xt15 xs3_15 xs3_3, fun _ => kit_ref xc16 xt16 xs3_16 xs3_3, fun _ => kit_ref xc18 xt18 xs3_18 xs3_3, trivial⟩, ⟨fun z => absurd z (by decide), fun _ => kit_ref xc1 xt1 xs4_1 xs4_4, fun _ => kit_ref xc2 xt2 xs4_2 xs4_4, fun _ => kit_ref xc3 xt3 xs4_3 xs4_4, fun _ => kit_ref xc4 xt4 xs4_4 xs4_4, fun _ => kit_ref xc12 xt12 xs4_12 xs4_4, fun _ => kit_ref xc13 xt13 xs4_13 xs4_4, fun _ => kit_ref xc15 xt15 xs4_15 xs4_4, fun _ => kit_ref xc16 xt16 xs4_16 xs4_4, fun _ => kit_ref xc18 xt18 xs4_18 xs4_4, trivial⟩, ⟨fun z => absurd z (by decide), fun _ => kit_ref xc1 xt1 xs12_1 xs12_12, fun _ => kit_ref xc2 xt2 xs12_2 xs12_12, fun _ => kit_ref xc3 xt3 xs12_3 xs12_12, fun _ => kit_ref xc4 xt4 xs12_4 xs12_12, fun _ => kit_ref xc12 xt12 xs12_12 xs12_12, fun _ => kit_ref xc13 xt13 xs12_13 xs12_12, fun _ => kit_ref xc15 xt15 xs12_15 xs12_12, fun _ => kit_ref xc16 xt16 xs12_16 xs12_12, fun _ => kit_ref xc18 xt18 xs12_18 xs12_12, trivial⟩, ⟨fun z => absurd z (by decide), fun _ => kit_ref xc1 xt1 xs13_1 xs13_13, fun _ => kit_ref xc2 xt2 xs13_2 xs13_13, fun _ => kit_ref xc3 xt3 xs13_3 xs13_13, fun _ => kit_ref xc4 xt4 xs13_4 xs13_13, fun _ => kit_ref xc12 xt12 xs13_12 xs13_13, fun _ => kit_ref xc13 xt13 xs13_13 xs13_13, fun _ => kit_ref xc15 xt15 xs13_15 xs13_13, fun _ => kit_ref xc16 xt16 xs13_16 xs13_13, fun _ => kit_ref xc18 xt18 xs13_18 xs13_13, trivial⟩, ⟨fun z => absurd z (by decide), fun _ => kit_ref xc1 xt1 xs15_1 xs15_15, fun _ => kit_ref xc2 xt2 xs15_2 xs15_15, fun _ => kit_ref xc3 xt3 xs15_3 xs15_15, fun _ => kit_ref xc4 xt4 xs15_4 xs15_15, fun _ => kit_ref xc12 xt12 xs15_12 xs15_15, fun _ => kit_ref xc13 xt13 xs15_13 xs15_15, fun _ => kit_ref xc15 xt15 xs15_15 xs15_15, fun _ => kit_ref xc16 xt16 xs15_16 xs15_15, fun _ => kit_ref xc18 xt18 xs15_18 xs15_15, trivial⟩, ⟨fun z => absurd z (by decide), fun _ => kit_ref xc1 xt1 xs16_1 xs16_16, fun _ => kit_ref xc2 xt2 xs16_2 xs16_16, fun _ => kit_ref xc3 xt3 xs16_3 xs16_16, fun _ => kit_ref xc4 xt4 xs16_4 xs16_16, fun _ => kit_ref xc12 xt12 xs16_12 xs16_16, fun _ => kit_ref xc13 xt13 xs16_13 xs16_16, fun _ => kit_ref xc15 xt15 xs16_15 xs16_16, fun _ => kit_ref xc16 xt16 xs16_16 xs16_16, fun _ => kit_ref xc18 xt18 xs16_18 xs16_16, trivial⟩, ⟨fun z => absurd z (by decide), fun _ => kit_ref xc1 xt1 xs18_1 xs18_18, fun _ => kit_ref xc2 xt2 xs18_2 xs18_18, fun _ => kit_ref xc3 xt3 xs18_3 xs18_18, fun _ => kit_ref xc4 xt4 xs18_4 xs18_18, fun _ => kit_ref xc12 xt12 xs18_12 xs18_18, fun _ => kit_ref xc13 xt13 xs18_13 xs18_18, fun _ => kit_ref xc15 xt15 xs18_15 xs18_18, fun _ => kit_ref xc16 xt16 xs18_16 xs18_18, fun _ => kit_ref xc18 xt18 xs18_18 xs18_18, trivial⟩, trivial⟩ e) e2
    kv := fun c C e => allL_at (P := fun _ C => PySem.W.kitOne K (.ref C) (.type "ValueError") = some true) (l := [(0, C0), (1, C1), (2, C2), (3, C3), (4, C4), (12, C12), (13, C13), (15, C15), (16, C16), (18, C18)]) ⟨yv0, yv1, yv2, yv3, yv4, yv12, yv13, yv15, yv16, yv18, trivial⟩ e
    nm := fun p hp => by
      simp only [namesL, List.mem_cons, List.not_mem_nil, or_false] at hp
      rcases hp with rfl | rfl | rfl | rfl | rfl | rfl | rfl | rfl | rfl
      · exact ⟨C1, rfl, PySem.W.mg_of X G xa1⟩
      · exact ⟨C2, rfl, PySem.W.mg_of X G xa2⟩
      · exact ⟨C4, rfl, PySem.W.mg_of X G xa4⟩
      · exact ⟨C12, rfl, PySem.W.mg_of X G xa12⟩
      · exact ⟨C13, rfl, PySem.W.mg_of X G xa13⟩
      · exact ⟨C15, rfl, PySem.W.mg_of X G xa15⟩
      · exact ⟨C16, rfl, PySem.W.mg_of X G xa16⟩
      · exact ⟨C3, rfl, PySem.W.mg_of X G xa3⟩
      · exact ⟨C18, rfl, PySem.W.mg_of X G xa18⟩
    }
  have f40 : FOne nms0 W 40 ⟨2, 4, b40⟩ "_law_equal" "_law_equal" zs40 zn40 := ⟨F40, zc40, rfl, rfl, zk40h, bi40⟩
  have hx13o : HxOk W1 0 p13 := hxOk13 ho f40 rfl rfl rfl
  have wok : WOk W1 := {
    ok0 := wok0.ok0
    gf := wok0.gf
    cl := wok0.cl
    at_ := wok0.at_
    pr := wok0.pr
    me := wok0.me
    eq := wok0.eq
    eqt := wok0.eqt
    len := wok0.len
    mkc := wok0.mkc
    nm := wok0.nm
    inj := wok0.inj
    iB := wok0.iB
    iO := wok0.iO
    iG := wok0.iG
    gc := wok0.gc
    kd := wok0.kd
    ex := wok0.ex
    ex0 := wok0.ex0
    ex1 := wok0.ex1
    exs := wok0.exs
    hx := fun j p h => by
      have h2 : (if j = 0 then some p13 else none) = some p := h
      split at h2
      · rename_i e0
        cases h2
        rw [e0]
        exact hx13o
      · cases h2 }
  have mk : NmsOk2 nms W1 := {
    gn := mk0.gn
    isG := mk0.isG
    cn := mk0.cn
    mn := mk0.mn
    an := mk0.an
    gc := mk0.gc
    kd := mk0.kd
    bi := mk0.bi
    isC := mk0.isC
    clsC := mk0.clsC
    hasInit := mk0.hasInit
    exf := mk0.exf
    only := mk0.only
    hs := rfl }
  have hf : ∀ f fd, W1.T.fn f = some fd → ∃ x qual st N, FOne nms W1 f fd x qual st N := fun f fd e => allL_at (P := fun f fd => ∃ x qual st N, FOne nms W1 f fd x qual st N) (l := fns) ⟨⟨("_law_random" : Str), ("_law_random" : Str), zs37, zn37, F37, zc37, rfl, rfl, zk37, bi37⟩, ⟨("_law_below" : Str), ("_law_below" : Str), zs38, zn38, F38, zc38, rfl, rfl, zk38, bi38⟩, ⟨("_law_pick" : Str), ("_law_pick" : Str), zs39, zn39, F39, zc39, rfl, rfl, zk39, bi39⟩, ⟨("_law_equal" : Str), ("_law_equal" : Str), zs40, zn40, F40, zc40, rfl, rfl, zk40, bi40⟩, ⟨("_law_thrown" : Str), ("_law_thrown" : Str), zs142, zn142, F142, zc142, rfl, rfl, zk142, bi142⟩, ⟨("law" : Str), ("law" : Str), zs56, zn56, F56, zc56, rfl, rfl, zk56, bi56⟩, trivial⟩ e
  refine ⟨d56, fun s u => ?_, fun base KB _ => fnOk_law (W := W1) rfl law (fns_ok wok mk base hf NN lawId ⟨1, 7, b56⟩ rfl).1⟩
  obtain ⟨_, _, _, _, _, _, _, _, _, rfl, _, _⟩ := F56.ex
  exact .of_eq rfl
end
end CFP
/-! K13 -/
set_option maxHeartbeats 1000000
/-! The law k13: its turns. -/
namespace CFP
open CF
abbrev onesL : List D := [.str [97], .str [], .int 7, .non, .tup [.int 1], .lst [.int 2]]
theorem ones_at {d : D} (h : d ∈ onesL) : ∃ i, i < 6 ∧ d = oneV i := by
  simp only [onesL, List.mem_cons, List.not_mem_nil, or_false] at h
  rcases h with h | h | h | h | h | h
  · exact ⟨0, by decide, h⟩
  · exact ⟨1, by decide, h⟩
  · exact ⟨2, by decide, h⟩
  · exact ⟨3, by decide, h⟩
  · exact ⟨4, by decide, h⟩
  · exact ⟨5, by decide, h⟩
theorem nineK {k : Nat} (h : k < 9) : k = 0 ∨ k = 1 ∨ k = 2 ∨ k = 3 ∨ k = 4 ∨ k = 5 ∨ k = 6 ∨ k = 7 ∨ k = 8 := by omega
/-- what is raised -/
theorem thrown_eq {n k : Nat} {d : D} {st : Sto} (h : k < 9) : callN T (n + 1) 142 [.int k, d] st = .exc (ordC.getD k 0) (fsAt k d) st := by
  rw [callN_succ fn142 rfl (by decide)]
  rcases nineK h with rfl | rfl | rfl | rfl | rfl | rfl | rfl | rfl | rfl <;> simp [b142, ordC, fsAt]
theorem sup0 {k : Nat} (h : k < 9) : T.sup (ordC.getD k 0) 0 = true ∧ (T.exf (ordC.getD k 0)).isSome = true := by
  rcases nineK h with rfl | rfl | rfl | rfl | rfl | rfl | rfl | rfl | rfl <;> exact ⟨rfl, rfl⟩
theorem ow_ex {c : Nat} {fs : List (Nat × D)} : isOwS (.ex c fs) = false := rfl
/-- a turn -/
theorem turn_eq {n k : Nat} {z : D} {x y w v u : Slot} {l : List D} (hk : k < 9) (h : Rnd l) (hx : isOwS x = false) (hy : isOwS y = false) (hw : isOwS w = false) (hu : isOwS u = false) :
    ∃ (l' : List D) (d : D), Rnd l' ∧ wfor T (callN T (n + 2)) (.nm 2) b56f0 (.int k) [.pu z, .pu (.ref 0), x, y, w, v, u] [.lst l] = .ok (.nx [.pu z, .pu (.ref 0), .pu (.int k), .pu d, .pu (.bl true), .emp, u]) [.lst l'] := by
  obtain ⟨d, l', hd, hl', e⟩ := pick_eq (n := n) (r := []) (xs := onesL) h (by simp) (by decide)
  obtain ⟨i, hi, rfl⟩ := ones_at hd
  refine ⟨l', oneV i, hl', ?_⟩
  have t := thrown_eq (n := n + 1) (d := oneV i) (st := [.lst l']) hk
  obtain ⟨s1, s2⟩ := sup0 hk
  have hg : T.hx 0 [.pu z, .pu (.ref 0), .pu (.int k), .pu (oneV i), .pu (.bl false), .ex (ordC.getD k 0) (fsAt k (oneV i)), u] [.lst l'] = some (.bl true) := hx13_good (st := [.lst l']) ⟨k, i, _, _, _, _, hk, hi, by simp [hu, ow_ex], rfl⟩
  simp only [w_wfor, w_bindNm]
  rw [if_pos (by simp)]
  simp only [List.set_cons_succ, List.set_cons_zero]
  generalize ordC.getD k 0 = c at *
  generalize fsAt k (oneV i) = fs at *
  unfold b56f0
  rw [exs_step (e' := [.pu z, .pu (.ref 0), .pu (.int k), .pu (oneV i), w, v, u]) (s' := [.lst l']) (by simp [e])]
  rw [exs_step (e' := [.pu z, .pu (.ref 0), .pu (.int k), .pu (oneV i), .pu (.bl false), v, u]) (s' := [.lst l']) (by simp)]
  rw [exs_step (e' := [.pu z, .pu (.ref 0), .pu (.int k), .pu (oneV i), .pu (.bl true), .emp, u]) (s' := [.lst l']) (by
    simp only [ex]
    simp [t, s1, s2, exh, ev, hg, hu, ow_ex]
    try rfl)]
  rw [exs_step (e' := [.pu z, .pu (.ref 0), .pu (.int k), .pu (oneV i), .pu (.bl true), .emp, u]) (s' := [.lst l']) (by simp)]
  simp
/-- the turns -/
theorem turns_eq {n : Nat} {z : D} : ∀ (ks : List Nat) (x y w v u : Slot) (l : List D), (∀ k ∈ ks, k < 9) → Rnd l → isOwS x = false → isOwS y = false → isOwS w = false → isOwS u = false →
    ∃ (e : Env) (l' : List D), loopV (wfor T (callN T (n + 2)) (.nm 2) b56f0) (ks.map fun (k : Nat) => D.int (k : Int)) [.pu z, .pu (.ref 0), x, y, w, v, u] [.lst l] = .ok (.nx e) [.lst l']
  | [], x, y, w, v, u, l, _, _, _, _, _, _ => ⟨_, l, rfl⟩
  | k :: ks, x, y, w, v, u, l, hk, h, hx, hy, hw, hu => by
    obtain ⟨l', d, h', e⟩ := turn_eq (n := n) (z := z) (v := v) (hk k (List.mem_cons_self ..)) h hx hy hw hu
    rw [List.map_cons, loopV_cons, e, seq_nx]
    exact turns_eq ks _ _ _ _ _ l' (fun k hk' => hk k (List.mem_cons_of_mem _ hk')) h' rfl rfl rfl hu
theorem law_ok0 (ns : List Int) (hl : ns.length ≤ 63) : ∃ st, callN T 40 lawId [.scr ns] [] = .ok (.bl true) st := by
  obtain ⟨l0, r0, e0⟩ := random_eq (n := 38) (y := 533) hl
  rw [callN_succ fn56 rfl (by decide)]
  obtain ⟨e, l', q⟩ := turns_eq (n := 37) (z := .scr ns) (List.range 9) .emp .emp .emp .emp .emp l0 (fun k h => List.mem_range.mp h) r0 rfl rfl rfl rfl
  have er : rngOf [.int 9] = some (.val ((List.range 9).map fun (k : Nat) => D.int (k : Int))) := by rfl
  unfold b56
  rw [exs_step (e' := [.pu (.scr ns), .pu (.ref 0), .emp, .emp, .emp, .emp, .emp]) (s' := [.lst l0]) (by
    simp [e0])]
  rw [exs_step (e' := e) (s' := [.lst l']) (by
    simp only [w_ex_for, w_evI_rg, w_evTs_cons, w_evTs_nil]
    simp only [w_evT_of (e := .cst (.int 9)) (fun i z => by cases z), w_ev_cst, bind_ok]
    rw [er]
    simp only [of_some, bind_ok, loopS_val]
    exact q)]
  refine ⟨[.lst l'], ?_⟩
  simp
end CFP
/-! Math -/
namespace CFP
theorem law_ok : CF.Law T 40 lawId := law_ok0
end CFP
/-! Head -/
open PySem PySem.W PyProof.Rows in
set_option maxRecDepth 100000 in
set_option pp.maxSteps 60 in
set_option maxHeartbeats 0 in
theorem PySem.Challenge.cw_clauseforms_k13_errors_apart_holds : PySem.Challenge.rw_clauseforms_k13_errors_apart.Holds := by
  w_on; o_law; k_head; (case hw => w_witness2)
  k_fill
  refine CF.walk_law (l := PySem.Challenge.rw_clauseforms_k13_errors_apart) (k := 3 * CFP.NN + 3) (x := "_law_script") rfl (by decide) rfl (fun w h Y => PySem.W.kIn_of Y) ?F
  case F =>
    intro w mg fa h KX G hmg0
    have hmg : mg ("law" : PySem.Str) = some (.ref fa) := hmg0
    clear hmg0
    refine' CFP.all_mk CFP.law_ok KX G hmg ?a37 ?F37 ?a38 ?F38 ?a39 ?F39 ?a40 ?F40 ?a142 ?F142 ?a56 ?F56 ?xa0 ?xk0 ?xb0 ?xt0 ?xc0 ?xe0 ?xa1 ?xk1 ?xb1 ?xt1 ?xc1 ?xe1 ?xa2 ?xk2 ?xb2 ?xt2 ?xc2 ?xe2 ?xa3 ?xk3 ?xb3 ?xt3 ?xc3 ?xo3 ?xr3 ?xsa3 ?xga3 ?xgg3 ?xhd3 ?xno3 ?xin3 ?xit3 ?xfn3 ?xcd3 ?xcl3 ?xvs3 ?xff3 ?xce3 ?xmr3 ?xsu3 ?xsv3 ?xa4 ?xk4 ?xb4 ?xt4 ?xc4 ?xe4 ?xa12 ?xk12 ?xb12 ?xt12 ?xc12 ?xe12 ?xa13 ?xk13 ?xb13 ?xt13 ?xc13 ?xe13 ?xa15 ?xk15 ?xb15 ?xt15 ?xc15 ?xe15 ?xa16 ?xk16 ?xb16 ?xt16 ?xc16 ?xe16 ?xa18 ?xk18 ?xb18 ?xt18 ?xc18 ?xo18 ?xr18 ?xsa18 ?xga18 ?xgg18 ?xhd18 ?xno18 ?xin18 ?xit18 ?xfn18 ?xcd18 ?xcl18 ?xvs18 ?xff18 ?xce18 ?xmr18 ?xsu18 ?xsv18 ?xtop ?xmg ?xop ?aC ?FC ?aF ?FF ?zValueError ?yn ?yt ?yg0 ?yk0 ?yd0 ?ya0 ?ym0 ?yv0 ?yg1 ?yk1 ?yd1 ?ya1 ?ym1 ?yv1 ?yg2 ?yk2 ?yd2 ?ya2 ?ym2 ?yv2 ?yg3 ?yk3 ?yd3 ?ya3 ?ym3 ?yv3 ?yg4 ?yk4 ?yd4 ?ya4 ?ym4 ?yv4 ?yg12 ?yk12 ?yd12 ?ya12 ?ym12 ?yv12 ?yg13 ?yk13 ?yd13 ?ya13 ?ym13 ?yv13 ?yg15 ?yk15 ?yd15 ?ya15 ?ym15 ?yv15 ?yg16 ?yk16 ?yd16 ?ya16 ?ym16 ?yv16 ?yg18 ?yk18 ?yd18 ?ya18 ?ym18 ?yv18 ?xs0_0 ?xs0_1 ?xs0_2 ?xs0_3 ?xs0_4 ?xs0_12 ?xs0_13 ?xs0_15 ?xs0_16 ?xs0_18 ?xs1_0 ?xs1_1 ?xs1_2 ?xs1_3 ?xs1_4 ?xs1_12 ?xs1_13 ?xs1_15 ?xs1_16 ?xs1_18 ?xs2_0 ?xs2_1 ?xs2_2 ?xs2_3 ?xs2_4 ?xs2_12 ?xs2_13 ?xs2_15 ?xs2_16 ?xs2_18 ?xs3_0 ?xs3_1 ?xs3_2 ?xs3_3 ?xs3_4 ?xs3_12 ?xs3_13 ?xs3_15 ?xs3_16 ?xs3_18 ?xs4_0 ?xs4_1 ?xs4_2 ?xs4_3 ?xs4_4 ?xs4_12 ?xs4_13 ?xs4_15 ?xs4_16 ?xs4_18 ?xs12_0 ?xs12_1 ?xs12_2 ?xs12_3 ?xs12_4 ?xs12_12 ?xs12_13 ?xs12_15 ?xs12_16 ?xs12_18 ?xs13_0 ?xs13_1 ?xs13_2 ?xs13_3 ?xs13_4 ?xs13_12 ?xs13_13 ?xs13_15 ?xs13_16 ?xs13_18 ?xs15_0 ?xs15_1 ?xs15_2 ?xs15_3 ?xs15_4 ?xs15_12 ?xs15_13 ?xs15_15 ?xs15_16 ?xs15_18 ?xs16_0 ?xs16_1 ?xs16_2 ?xs16_3 ?xs16_4 ?xs16_12 ?xs16_13 ?xs16_15 ?xs16_16 ?xs16_18 ?xs18_0 ?xs18_1 ?xs18_2 ?xs18_3 ?xs18_4 ?xs18_12 ?xs18_13 ?xs18_15 ?xs18_16 ?xs18_18 ?zlen ?zlist ?ztuple ?zsorted ?zdict ?zsum ?zmax ?zmin ?zabs ?zint ?zstr ?zall ?zany ?zset ?zzip ?zrange ?zenumerate ?zisinstance ?zbool
    (case a37 => k_is)
    (case F37 => refine' L2.fun_mk ?A ?B ?C; (case A => k_is); (case B => k_is); (case C => k_is))
    (case a38 => k_is)
    (case F38 => refine' L2.fun_mk ?A ?B ?C; (case A => k_is); (case B => k_is); (case C => k_is))
    (case a39 => k_is)
    (case F39 => refine' L2.fun_mk ?A ?B ?C; (case A => k_is); (case B => k_is); (case C => k_is))
    (case a40 => k_is)
    (case F40 => refine' L2.fun_mk ?A ?B ?C; (case A => k_is); (case B => k_is); (case C => k_is))
    (case a142 => k_is)
    (case F142 => refine' L2.fun_mk ?A ?B ?C; (case A => k_is); (case B => k_is); (case C => k_is))
    (case a56 => k_is)
    (case F56 => refine' L2.fun_mk ?A ?B ?C; (case A => k_is); (case B => k_is); (case C => k_is))
    (case xa0 => k_is)
    (case xk0 => k_is)
    (case xb0 => k_is)
    (case xt0 => k_is)
    (case xc0 => k_is)
    (case xe0 => k_exc)
    (case xa1 => k_is)
    (case xk1 => k_is)
    (case xb1 => k_is)
    (case xt1 => k_is)
    (case xc1 => k_is)
    (case xe1 => k_exc)
    (case xa2 => k_is)
    (case xk2 => k_is)
    (case xb2 => k_is)
    (case xt2 => k_is)
    (case xc2 => k_is)
    (case xe2 => k_exc)
    (case xa3 => k_is)
    (case xk3 => k_is)
    (case xb3 => k_is)
    (case xt3 => k_is)
    (case xc3 => k_is)
    (case xo3 => k_is)
    (case xr3 => kernel_rfl)
    (case xsa3 => k_is)
    (case xga3 => k_is)
    (case xgg3 => k_is)
    (case xhd3 => k_is)
    (case xno3 => k_is)
    (case xin3 => k_is)
    (case xit3 => k_is)
    (case xfn3 => k_is)
    (case xcd3 => k_is)
    (case xcl3 => k_is)
    (case xvs3 => rfl)
    (case xff3 => kernel_rfl)
    (case xce3 => k_is)
    (case xmr3 => k_is)
    (case xsu3 => kernel_rfl)
    (case xsv3 => k_is)
    (case xa4 => k_is)
    (case xk4 => k_is)
    (case xb4 => k_is)
    (case xt4 => k_is)
    (case xc4 => k_is)
    (case xe4 => k_exc)
    (case xa12 => k_is)
    (case xk12 => k_is)
    (case xb12 => k_is)
    (case xt12 => k_is)
    (case xc12 => k_is)
    (case xe12 => k_exc)
    (case xa13 => k_is)
    (case xk13 => k_is)
    (case xb13 => k_is)
    (case xt13 => k_is)
    (case xc13 => k_is)
    (case xe13 => k_exc)
    (case xa15 => k_is)
    (case xk15 => k_is)
    (case xb15 => k_is)
    (case xt15 => k_is)
    (case xc15 => k_is)
    (case xe15 => k_exc)
    (case xa16 => k_is)
    (case xk16 => k_is)
    (case xb16 => k_is)
    (case xt16 => k_is)
    (case xc16 => k_is)
    (case xe16 => k_exc)
    (case xa18 => k_is)
    (case xk18 => k_is)
    (case xb18 => k_is)
    (case xt18 => k_is)
    (case xc18 => k_is)
    (case xo18 => k_is)
    (case xr18 => kernel_rfl)
    (case xsa18 => k_is)
    (case xga18 => k_is)
    (case xgg18 => k_is)
    (case xhd18 => k_is)
    (case xno18 => k_is)
    (case xin18 => k_is)
    (case xit18 => k_is)
    (case xfn18 => k_is)
    (case xcd18 => k_is)
    (case xcl18 => k_is)
    (case xvs18 => rfl)
    (case xff18 => kernel_rfl)
    (case xce18 => k_is)
    (case xmr18 => k_is)
    (case xsu18 => kernel_rfl)
    (case xsv18 => k_is)
    (case xtop => kernel_rfl)
    (case xmg => k_is)
    (case xop => k_is)
    (case aC => k_is)
    (case FC => refine' L2.fun_mk ?A ?B ?C; (case A => k_is); (case B => k_is); (case C => k_is))
    (case aF => k_is)
    (case FF => refine' L2.fun_mk ?A ?B ?C; (case A => k_is); (case B => k_is); (case C => k_is))
    (case zValueError => k_is)
    (case yn => k_is)
    (case yt => k_is)
    (case yg0 => k_is)
    (case yk0 => k_is)
    (case yd0 => k_is)
    (case ya0 => k_is)
    (case ym0 => k_is)
    (case yv0 => kit_is)
    (case yg1 => k_is)
    (case yk1 => k_is)
    (case yd1 => k_is)
    (case ya1 => k_is)
    (case ym1 => k_is)
    (case yv1 => kit_is)
    (case yg2 => k_is)
    (case yk2 => k_is)
    (case yd2 => k_is)
    (case ya2 => k_is)
    (case ym2 => k_is)
    (case yv2 => kit_is)
    (case yg3 => k_is)
    (case yk3 => k_is)
    (case yd3 => k_is)
    (case ya3 => k_is)
    (case ym3 => k_is)
    (case yv3 => kit_is)
    (case yg4 => k_is)
    (case yk4 => k_is)
    (case yd4 => k_is)
    (case ya4 => k_is)
    (case ym4 => k_is)
    (case yv4 => kit_is)
    (case yg12 => k_is)
    (case yk12 => k_is)
    (case yd12 => k_is)
    (case ya12 => k_is)
    (case ym12 => k_is)
    (case yv12 => kit_is)
    (case yg13 => k_is)
    (case yk13 => k_is)
    (case yd13 => k_is)
    (case ya13 => k_is)
    (case ym13 => k_is)
    (case yv13 => kit_is)
    (case yg15 => k_is)
    (case yk15 => k_is)
    (case yd15 => k_is)
    (case ya15 => k_is)
    (case ym15 => k_is)
    (case yv15 => kit_is)
    (case yg16 => k_is)
    (case yk16 => k_is)
    (case yd16 => k_is)
    (case ya16 => k_is)
    (case ym16 => k_is)
    (case yv16 => kit_is)
    (case yg18 => k_is)
    (case yk18 => k_is)
    (case yd18 => k_is)
    (case ya18 => k_is)
    (case ym18 => k_is)
    (case yv18 => kit_is)
    (case xs0_0 => k_is)
    (case xs0_1 => k_is)
    (case xs0_2 => k_is)
    (case xs0_3 => k_is)
    (case xs0_4 => k_is)
    (case xs0_12 => k_is)
    (case xs0_13 => k_is)
    (case xs0_15 => k_is)
    (case xs0_16 => k_is)
    (case xs0_18 => k_is)
    (case xs1_0 => k_is)
    (case xs1_1 => k_is)
    (case xs1_2 => k_is)
    (case xs1_3 => k_is)
    (case xs1_4 => k_is)
    (case xs1_12 => k_is)
    (case xs1_13 => k_is)
    (case xs1_15 => k_is)
    (case xs1_16 => k_is)
    (case xs1_18 => k_is)
    (case xs2_0 => k_is)
    (case xs2_1 => k_is)
    (case xs2_2 => k_is)
    (case xs2_3 => k_is)
    (case xs2_4 => k_is)
    (case xs2_12 => k_is)
    (case xs2_13 => k_is)
    (case xs2_15 => k_is)
    (case xs2_16 => k_is)
    (case xs2_18 => k_is)
    (case xs3_0 => k_is)
    (case xs3_1 => k_is)
    (case xs3_2 => k_is)
    (case xs3_3 => k_is)
    (case xs3_4 => k_is)
    (case xs3_12 => k_is)
    (case xs3_13 => k_is)
    (case xs3_15 => k_is)
    (case xs3_16 => k_is)
    (case xs3_18 => k_is)
    (case xs4_0 => k_is)
    (case xs4_1 => k_is)
    (case xs4_2 => k_is)
    (case xs4_3 => k_is)
    (case xs4_4 => k_is)
    (case xs4_12 => k_is)
    (case xs4_13 => k_is)
    (case xs4_15 => k_is)
    (case xs4_16 => k_is)
    (case xs4_18 => k_is)
    (case xs12_0 => k_is)
    (case xs12_1 => k_is)
    (case xs12_2 => k_is)
    (case xs12_3 => k_is)
    (case xs12_4 => k_is)
    (case xs12_12 => k_is)
    (case xs12_13 => k_is)
    (case xs12_15 => k_is)
    (case xs12_16 => k_is)
    (case xs12_18 => k_is)
    (case xs13_0 => k_is)
    (case xs13_1 => k_is)
    (case xs13_2 => k_is)
    (case xs13_3 => k_is)
    (case xs13_4 => k_is)
    (case xs13_12 => k_is)
    (case xs13_13 => k_is)
    (case xs13_15 => k_is)
    (case xs13_16 => k_is)
    (case xs13_18 => k_is)
    (case xs15_0 => k_is)
    (case xs15_1 => k_is)
    (case xs15_2 => k_is)
    (case xs15_3 => k_is)
    (case xs15_4 => k_is)
    (case xs15_12 => k_is)
    (case xs15_13 => k_is)
    (case xs15_15 => k_is)
    (case xs15_16 => k_is)
    (case xs15_18 => k_is)
    (case xs16_0 => k_is)
    (case xs16_1 => k_is)
    (case xs16_2 => k_is)
    (case xs16_3 => k_is)
    (case xs16_4 => k_is)
    (case xs16_12 => k_is)
    (case xs16_13 => k_is)
    (case xs16_15 => k_is)
    (case xs16_16 => k_is)
    (case xs16_18 => k_is)
    (case xs18_0 => k_is)
    (case xs18_1 => k_is)
    (case xs18_2 => k_is)
    (case xs18_3 => k_is)
    (case xs18_4 => k_is)
    (case xs18_12 => k_is)
    (case xs18_13 => k_is)
    (case xs18_15 => k_is)
    (case xs18_16 => k_is)
    (case xs18_18 => k_is)
    (case zlen => k_is)
    (case zlist => k_is)
    (case ztuple => k_is)
    (case zsorted => k_is)
    (case zdict => k_is)
    (case zsum => k_is)
    (case zmax => k_is)
    (case zmin => k_is)
    (case zabs => k_is)
    (case zint => k_is)
    (case zstr => k_is)
    (case zall => k_is)
    (case zany => k_is)
    (case zset => k_is)
    (case zzip => k_is)
    (case zrange => k_is)
    (case zenumerate => k_is)
    (case zisinstance => k_is)
    (case zbool => k_is)
    all_goals exact Value.none
