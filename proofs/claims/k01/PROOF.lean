import PyProof.Rows.All
import Wide.All
import OpenK.AllK
import Wide.FinOn
import PySem.Str
import HandS.ForMost
import HandS.Exc
import HandS.Lambda
import HandS.TupAny
import HandS.TupMul
import HandS.Wide
import HandS.Deep
import HandS.Text
import HandS.Flow
import HandS.Style
import KE.KTupSum
import HandS.SortRule
import HandS.SortInts
import HandS.FStr
import HandS.Walk
import KE.GoesMore
import HandS.ExcOwn
import HandS.Defaults
import HandS.Comp
import HandS.GenOver
import HandS.GenList
import PyProof.SumAny
import PyProof.TupleOfGen
import HandS.AnyAll
import HandS.HeadHook4
import HandS.HeadWalk
import HandS.Head2
import HandS.HeadEnd
import PySem.Challenge.RW_votestack_k01_exact_numbers_for_votes
section
set_option autoImplicit false
/-! VSyn: a small Python over plain data: values, trees, the evaluator. -/
namespace VS

/-- plain data; a text is its code points -/
inductive D where
  | non | bl (b : Bool) | int (i : Int) | str (s : List Nat)
  | tup (ds : List D) | lst (ds : List D) | dct (kvs : List (D × D))
  deriving Inhabited

/-- who may change what stands in a slot: its owner; nobody while it is walked; nobody any more -/
inductive Fl where | own | lent | val | fns
  deriving DecidableEq, Inhabited

/-- p: still the very object that came as the argument -/
structure Slot where
  f : Fl
  p : Bool
  d : D
  deriving Inhabited
abbrev Rho := List (Option Slot)
/-- a value's hold: others may hold it; it is new and nobody else's; a new list of one thing that is nobody else's, too -/
inductive Ow where | val | own | one
  deriving DecidableEq, Inhabited

inductive R (α : Type) where
  | ok (a : α) (r : Rho) | ex (c : Nat) (r : Rho) | no
def R.bind {α β : Type} (m : R α) (f : α → Rho → R β) : R β := match m with
  | .ok a r => f a r
  | .ex c r => .ex c r
  | .no => .no
/-- a call's end: value (own: made anew, nobody else holds it), the parameters' slots behind it -/
inductive CR where
  | ret (o : Ow) (d : D) (outs : Rho) | ex (c : Nat) (outs : Rho) | no
/-- a statement's end -/
inductive SR where
  | nx (r : Rho) | rt (o : Ow) (d : D) (r : Rho) | bk (r : Rho) | ct (r : Rho) | ex (c : Nat) (r : Rho) | no

inductive BOp where | add | sub | mul | fdiv | mod | pow
  deriving DecidableEq
inductive COp where | eq | ne | lt | le | gt | ge | isn | nisn | isin | notin
  deriving DecidableEq
/-- built-in functions of values -/
inductive Bi where
  | len | sum | sum2 | min | max | sorted | list | tuple | abs | int | str | dict | range1 | range2
  deriving DecidableEq
/-- methods that change nothing -/
inductive Mt where | get1 | get2 | index | split | join | partition | count | replace
  deriving DecidableEq
/-- methods that change their list or dict -/
inductive Mu where | append | insert | remove | pop0 | pop1 | update
  deriving DecidableEq
inductive Gn where | any | all | sum | min | max | sorted | tuple
  deriving DecidableEq
inductive Tg where
  | nm (i : Nat) | tup (ts : List Tg)

mutual
inductive Ex where
  | non | bl (b : Bool) | int (i : Int) | str (s : List Nat)
  | var (i : Nat) | glo (g : Nat)
  | tup (es : List Ex) | lst (es : List Ex) | dct (kvs : List Ex)
  | bin (o : BOp) (a b : Ex) | neg (a : Ex) | not (a : Ex)
  | cmp (o : COp) (a b : Ex) | cmp2 (o o' : COp) (a b c : Ex)
  | and (es : List Ex) | or (es : List Ex) | ife (c a b : Ex)
  | idx (a i : Ex) | slc (a lo hi : Ex) | rev (a : Ex)
  | call (j : Nat) (es : List Ex) | bi (b : Bi) (es : List Ex) | mt (m : Mt) (r : Ex) (es : List Ex)
  | mu (m : Mu) (x : Nat) (es : List Ex)
  | lc (e : Ex) (t : Tg) (s : Sc) (c : List Ex)
  /-- [e for i in s], s of one item, e new -/
  | lc1 (e : Ex) (i : Nat) (s : Sc)
  | dc (k e : Ex) (t : Tg) (s : Sc) (c : List Ex)
  | gn (g : Gn) (e : Ex) (t : Tg) (s : Sc) (c : List Ex)
  | cn (b : Bi) (s : Sc)
  | fst (es : List Ex)
  /-- told(lambda: e): the text z for the exceptions cs -/
  | told (e : Ex) (cs : List Nat) (z : List Nat)
  /-- the places of those of the n lambdas of slot x for which told isn't z; k, f: the loop's names -/
  | refused (x k f n : Nat) (cs : List Nat) (z : List Nat)
/-- what a loop walks -/
inductive Sc where
  | ex (e : Ex) | range1 (e : Ex) | range2 (a b : Ex) | range3 (a b c : Ex) | enum (e : Ex) | zip (a b : Ex) | items (e : Ex) | values (e : Ex)
end

mutual
inductive St where
  | asg (i : Nat) (e : Ex)
  | par (ts : List Nat) (es : List Ex)
  | unp (t : Tg) (e : Ex)
  | set (x : Nat) (i e : Ex)
  | aug (o : BOp) (x : Nat) (e : Ex)
  | augs (o : BOp) (x : Nat) (i e : Ex)
  | exp (e : Ex)
  | ret (e : Ex) | ret0
  | ifs (c : Ex) (a b : List St)
  | for (t : Tg) (s : Sc) (b : List St)
  | whl (c : Ex) (b : List St)
  /-- for i in e: b, e a new list of one new thing -/
  | for1 (i : Nat) (e : Ex) (b : List St)
  | raise (c : Nat)
  | lams (x : Nat) (n : Nat) | lamsAdd (x m n : Nat)
  | pass | brk | cont
end
end VS
end

section
set_option autoImplicit false
/-! VEval: the evaluator. -/
namespace VS

/-! ### plain operations -/
mutual
/-- == of Python -/
def peq : D → D → Bool
  | .non, .non => true
  | .bl a, .bl b => a == b
  | .bl a, .int j => (if a then 1 else 0) == j
  | .int i, .bl b => i == (if b then 1 else 0)
  | .int i, .int j => i == j
  | .str s, .str t => s == t
  | .tup xs, .tup ys => peqL xs ys
  | .lst xs, .lst ys => peqL xs ys
  | .dct kvs, .dct lws => kvs.length == lws.length && peqK kvs lws
  | _, _ => false
def peqL : List D → List D → Bool
  | [], [] => true
  | x :: xs, y :: ys => peq x y && peqL xs ys
  | _, _ => false
/-- every entry of the first is one of the second -/
def peqK : List (D × D) → List (D × D) → Bool
  | [], _ => true
  | (k, v) :: r, lws => lws.any (fun p => peq k p.1 && peq v p.2) && peqK r lws
end

def ltL (s t : List Nat) : Bool := match s, t with
  | _, [] => false
  | [], _ :: _ => true
  | a :: s, b :: t => if a == b then ltL s t else decide (a < b)
mutual
/-- < of ints, texts, tuples and lists of such (of one shape) -/
def plt : D → D → Option Bool
  | .int i, .int j => some (decide (i < j))
  | .str s, .str t => some (ltL s t)
  | .tup xs, .tup ys => pltL xs ys
  | .lst xs, .lst ys => pltL xs ys
  | _, _ => none
def pltL : List D → List D → Option Bool
  | _, [] => some false
  | [], _ :: _ => some true
  | x :: xs, y :: ys => if peq x y then pltL xs ys else plt x y
end
/-- sorted: x goes ahead of those that are not less -/
def insS {α : Type} (lt : α → α → Bool) (x : α) : List α → List α
  | [] => [x]
  | y :: ys => if lt y x then y :: insS lt x ys else x :: y :: ys
def sortS {α : Type} (lt : α → α → Bool) : List α → List α
  | [] => []
  | x :: xs => insS lt x (sortS lt xs)
def ltI (i j : Int) : Bool := decide (i < j)
/-- pairs of ints -/
def ltP2 (p q : Int × Int) : Bool := decide (p.1 < q.1) || (decide (p.1 = q.1) && decide (p.2 < q.2))

def dget (k : D) : List (D × D) → Option D
  | [] => none
  | (k', v) :: r => if peq k k' then some v else dget k r
def dput (k v : D) : List (D × D) → List (D × D)
  | [] => [(k, v)]
  | (k', w) :: r => if peq k k' then (k', v) :: r else (k', w) :: dput k v r
def ddel (k : D) : List (D × D) → List (D × D)
  | [] => []
  | (k', w) :: r => if peq k k' then r else (k', w) :: ddel k r
/-- keys: ints, texts, tuples of these -/
def flatK : D → Bool
  | .int _ | .str _ => true
  | _ => false
def okK : D → Bool
  | .int _ | .str _ => true
  | .tup ds => ds.all flatK
  | _ => false

/-- the place that an index means -/
def place (i : Int) (n : Nat) : Option Nat :=
  if 0 ≤ i then (if i < n then some i.toNat else none) else (if -(n : Int) ≤ i then some (i + n).toNat else none)
/-- a slice's end, cut to 0 .. n -/
def cutTo (i : Int) (n : Nat) : Nat := if 0 ≤ i then min i.toNat n else (i + n).toNat
def slice {α : Type} (xs : List α) (lo hi : Option Int) : List α :=
  let a := match lo with | some i => cutTo i xs.length | none => 0
  let b := match hi with | some i => cutTo i xs.length | none => xs.length
  (xs.take b).drop a

def isPre (s : List Nat) : List Nat → Bool
  | t => s.isPrefixOf t
def subText (s : List Nat) : List Nat → Bool
  | [] => s.isEmpty
  | c :: t => s.isPrefixOf (c :: t) || subText s t

def digitsF : Nat → Nat → List Nat → List Nat
  | 0, _, acc => acc
  | f + 1, n, acc => if n < 10 then (48 + n) :: acc else digitsF f (n / 10) ((48 + n % 10) :: acc)
def natText (n : Nat) : List Nat := digitsF (n + 1) n []
def intText (i : Int) : List Nat := if i < 0 then 45 :: natText i.natAbs else natText i.natAbs

def mulOk (i j : Int) : Bool := (decide (-(2 ^ 64) < i) && decide (i < 2 ^ 64)) || (decide (-(2 ^ 64) < j) && decide (j < 2 ^ 64)) || decide (i.natAbs.log2 + j.natAbs.log2 < 1000000)
def divOk (j : Int) : Bool := (decide (j ≠ 0) && decide (j.natAbs < 1073741824)) || (decide (0 < j) && decide (j.natAbs.log2 < 9000))
/-- no dicts, not deep -/
def shal : Nat → D → Bool
  | _, .non => true
  | _, .bl _ => true
  | _, .int _ => true
  | _, .str s => s.all fun c => decide (c < 1114112)
  | 0, _ => false
  | n + 1, .tup ds => ds.all (shal n)
  | n + 1, .lst ds => ds.all (shal n)
  | _, .dct _ => false
/-- few enough for one list or text -/
def few (n : Nat) : Bool := decide (n ≤ 16777216)

def repL {α : Type} (xs : List α) : Nat → List α
  | 0 => []
  | n + 1 => xs ++ repL xs n

/-- a + b and the like; true: a new list -/
def binD (o : BOp) (a b : D) : Option (Ow × D) := match o, a, b with
  | .add, .int i, .int j => some (.val, .int (i + j))
  | .add, .str s, .str t => if few (s.length + t.length) then some (.val, .str (s ++ t)) else none
  | .add, .lst s, .lst t => if few (s.length + t.length) then some (.own, .lst (s ++ t)) else none
  | .add, .tup s, .tup t => if few (s.length + t.length) then some (.val, .tup (s ++ t)) else none
  | .sub, .int i, .int j => some (.val, .int (i - j))
  | .mul, .int i, .int j => if mulOk i j then some (.val, .int (i * j)) else none
  | .mul, .lst s, .int j => if decide (-(2 ^ 63) ≤ j) && decide (j ≤ 1000) && few (s.length * j.toNat) then some (.own, .lst (repL s j.toNat)) else none
  | .mul, .tup s, .int j => if decide (2 ≤ j) && decide (j ≤ 1000) && decide (s.length ≤ 1000) && !s.isEmpty then some (.val, .tup (repL s j.toNat)) else none
  | .fdiv, .int i, .int j => if divOk j then some (.val, .int (i.fdiv j)) else none
  | .mod, .int i, .int j => if j ≠ 0 then some (.val, .int (i.fmod j)) else none
  | .pow, .int i, .int j => if 0 ≤ j ∧ j ≤ 1000000 ∧ i.natAbs < 2 ^ 64 then some (.val, .int (i ^ j.toNat)) else none
  | _, _, _ => none

def flat : D → Bool
  | .non | .bl _ | .int _ | .str _ => true
  | _ => false
def inD (a : D) : D → Option Bool
  | .lst ds => if flat a && ds.all flat then some (ds.any fun z => peq z a) else if shal 8 a && ds.all (shal 7) then some (ds.any fun z => peq z a) else none
  | .tup ds => if flat a && ds.all flat then some (ds.any fun z => peq z a) else none
  | _ => none
def intsD : List D → Option (List Int)
  | [] => some []
  | .int i :: r => (intsD r).map (i :: ·)
  | _ => none
def lexI : List Int → List Int → Bool
  | _, [] => false
  | [], _ :: _ => true
  | a :: s, b :: t => if a == b then lexI s t else decide (a < b)
def ltD : D → D → Option Bool
  | .int i, .int j => some (decide (i < j))
  | .str s, .str t => some (ltL s t)
  | .tup xs, .tup ys => (intsD xs).bind fun is => (intsD ys).map fun js => lexI is js
  | _, _ => none
def cmpD (o : COp) (a b : D) : Option Bool := match o with
  | .eq => if shal 8 a && shal 8 b then some (peq a b) else none
  | .ne => if shal 8 a && shal 8 b then some (!peq a b) else none
  | .lt => ltD a b
  | .gt => match a, b with | .int i, .int j => some (decide (j < i)) | .str s, .str t => some (ltL t s) | _, _ => none
  | .le => match a, b with | .int i, .int j => some (decide (i ≤ j)) | _, _ => none
  | .ge => match a, b with | .int i, .int j => some (decide (j ≤ i)) | _, _ => none
  | .isn => match b with | .non => some (match a with | .non => true | _ => false) | _ => none
  | .nisn => match b with | .non => some (match a with | .non => false | _ => true) | _ => none
  | .isin => inD a b
  | .notin => (inD a b).map (!·)
def truD : D → Bool
  | .non => false
  | .bl b => b
  | .int i => i != 0
  | .str s => !s.isEmpty
  | .tup ds => !ds.isEmpty
  | .lst ds => !ds.isEmpty
  | .dct kvs => !kvs.isEmpty

/-- .. where the proof covers it -/
def truO : D → Option Bool
  | .dct _ => none
  | .str s => if few s.length then some (!s.isEmpty) else none
  | d => some (truD d)

def idxD : D → D → Option D
  | .lst ds, .int i => (place i ds.length).bind fun k => ds[k]?
  | .tup ds, .int i => (place i ds.length).bind fun k => ds[k]?
  | .str s, .int i => if few s.length then (place i s.length).bind fun k => (s[k]?).map fun c => .str [c] else none
  | _, _ => none
def slcD (l h : Option Int) : D → Option (Ow × D)
  | .lst ds => some (.own, .lst (slice ds l h))
  | .tup ds => some (.val, .tup (slice ds l h))
  | .str s => if few s.length then some (.val, .str (slice s l h)) else none
  | _ => none
def revD : D → Option (Ow × D)
  | .lst ds => some (.own, .lst ds.reverse)
  | _ => none

def pairsI : List D → Option (List (Int × Int))
  | [] => some []
  | .tup [.int i, .int j] :: r => (pairsI r).map ((i, j) :: ·)
  | _ => none
def textsD : List D → Option (List (List Nat))
  | [] => some []
  | .str s :: r => (textsD r).map (s :: ·)
  | _ => none
/-- sorted -/
def sortV (ds : List D) : Option (List D) := match intsD ds with
  | some is => some ((sortS ltI is).map .int)
  | none => match pairsI ds with
    | some ps => some ((sortS ltP2 ps).map fun p => .tup [.int p.1, .int p.2])
    | none => none
def maxI : List Int → Option Int
  | [] => none
  | x :: xs => some (xs.foldl (fun b y => if b < y then y else b) x)
def minI : List Int → Option Int
  | [] => none
  | x :: xs => some (xs.foldl (fun b y => if y < b then y else b) x)
/-- what is walked in a value -/
def itemsOf : D → Option (List D)
  | .lst ds => some ds
  | .tup ds => some ds
  | .dct kvs => some (kvs.map (·.1))
  | .str s => some (s.map fun c => .str [c])
  | _ => none
def pairsD : List D → Option (List (D × D))
  | [] => some []
  | .tup [k, v] :: r => if okK k then (pairsD r).map ((k, v) :: ·) else none
  | _ => none
def putAll (kvs : List (D × D)) : List (D × D) → List (D × D)
  | [] => kvs
  | (k, v) :: r => putAll (dput k v kvs) r
def textInt : List Nat → Option Int
  | [] => none
  | s => if s.all (fun c => decide (48 ≤ c) && decide (c ≤ 57)) then some (s.foldl (fun n c => n * 10 + ((c - 48 : Nat) : Int)) 0) else none

def seqD : D → Option (List D)
  | .lst ds => some ds
  | .tup ds => some ds
  | _ => none
def consD (b : Bi) (ds : List D) : Option (Ow × D) := match b with
  | .sum => (intsD ds).map fun is => (.val, .int is.sum)
  | .min => (intsD ds).bind fun is => (minI is).map fun i => (.val, .int i)
  | .max => (intsD ds).bind fun is => (maxI is).map fun i => (.val, .int i)
  | .sorted => (sortV ds).map fun d => (.own, .lst d)
  | .list => some (.own, .lst ds)
  | .tuple => some (.val, .tup ds)
  | .len => some (.val, .int ds.length)
  | _ => none
def lenD : D → Option Nat
  | .lst ds => some ds.length
  | .tup ds => some ds.length
  | .str s => if few s.length then some s.length else none
  | _ => none
/-- a built-in of values -/
def biD (b : Bi) (as : List D) : Option (Ow × D) := match as with
  | [a] => match b with
    | .abs => match a with
      | .int i => some (.val, .int (if i < 0 then -i else i))
      | _ => none
    | .int => match a with
      | .int i => some (.val, .int i)
      | .bl b => some (.val, .int (if b then 1 else 0))
      | _ => none
    | .str => match a with
      | .int i => if decide (i.natAbs.log2 < 1920) then some (.val, .str (intText i)) else none
      | _ => none
    | .len => (lenD a).map fun (n : Nat) => (.val, .int (n : Int))
    | .sorted => match a with
      | .lst ds => consD .sorted ds
      | _ => none
    | b => (seqD a).bind (consD b)
  | [a, a'] => match b, a, a' with
    | .min, .int i, .int j => some (.val, .int (if j < i then j else i))
    | .max, .int i, .int j => some (.val, .int (if j > i then j else i))
    | _, _, _ => none
  | _ => none

def findD (a : D) : List D → Option Nat
  | [] => none
  | x :: xs => if peq x a then some 0 else (findD a xs).map (· + 1)
/-- s cut at each sep (not empty) -/
def splitT (sep : List Nat) : Nat → List Nat → List Nat → List (List Nat)
  | 0, acc, s => [acc.reverse ++ s]
  | _ + 1, acc, [] => [acc.reverse]
  | f + 1, acc, c :: s => if sep.isPrefixOf (c :: s) then acc.reverse :: splitT sep f [] ((c :: s).drop sep.length) else splitT sep f (c :: acc) s
def partT (sep : List Nat) (acc : List Nat) : List Nat → Option (List Nat × List Nat)
  | [] => none
  | c :: s => if sep.isPrefixOf (c :: s) then some (acc.reverse, (c :: s).drop sep.length) else partT sep (c :: acc) s
def texts : List D → Option (List (List Nat))
  | [] => some []
  | .str s :: r => (texts r).map (s :: ·)
  | _ => none
def joinT (sep : List Nat) : List (List Nat) → List Nat
  | [] => []
  | [s] => s
  | s :: r => s ++ sep ++ joinT sep r
def box : D → Bool
  | .lst _ | .dct _ => true
  | _ => false
def mtD (m : Mt) (r : D) (as : List D) : Option (Ow × D) := match m, r, as with
  | .get1, .dct kvs, [k] => if okK k then some (.val, (dget k kvs).getD .non) else none
  | .get2, .dct kvs, [k, x] => if okK k && !box x then some (.val, (dget k kvs).getD x) else none
  | .index, .lst ds, [a] => (findD a ds).map fun k => (.val, .int k)
  | .index, .tup ds, [a] => (findD a ds).map fun k => (.val, .int k)
  | .split, .str s, [.str sep] => if sep.isEmpty then none else some (.own, .lst ((splitT sep (s.length + 1) [] s).map .str))
  | .join, .str sep, [a] => (match a with | .lst ds => texts ds | .tup ds => texts ds | _ => none).map fun ts => (.val, .str (joinT sep ts))
  | .partition, .str s, [.str sep] => if sep.isEmpty then none else match partT sep [] s with
    | some (a, b) => some (.val, .tup [.str a, .str sep, .str b])
    | none => some (.val, .tup [.str s, .str [], .str []])
  | .count, .lst ds, [a] => some (.val, .int (ds.filter (peq a)).length)
  | .count, .tup ds, [a] => some (.val, .int (ds.filter (peq a)).length)
  | _, _, _ => none
/-- the new thing, the value -/
def muD (m : Mu) (r : D) (as : List D) : Option (D × D) := match m, r, as with
  | .append, .lst ds, [a] => some (.lst (ds ++ [a]), .non)
  | .insert, .lst ds, [.int i, a] => let k := cutTo i ds.length; some (.lst (ds.take k ++ a :: ds.drop k), .non)
  | .remove, .lst ds, [a] => (findD a ds).map fun k => (.lst (ds.eraseIdx k), .non)
  | .pop0, .lst ds, [] => (ds[ds.length - 1]?).map fun x => (.lst ds.dropLast, x)
  | .pop1, .lst ds, [.int i] => (place i ds.length).bind fun k => (ds[k]?).map fun x => (.lst (ds.eraseIdx k), x)
  | .pop1, .dct kvs, [k] => if okK k then (dget k kvs).map fun v => (.dct (ddel k kvs), v) else none
  | .update, .dct kvs, [.dct lws] => some (.dct (putAll kvs lws), .non)
  | _, _, _ => none
def setD (r i v : D) : Option D := match r, i with
  | .lst ds, .int i => (place i ds.length).map fun k => .lst (ds.set k v)
  | _, _ => none

/-! ### slots -/
def getS (r : Rho) (i : Nat) : Option Slot := match r[i]? with
  | some (some ⟨.fns, _, _⟩) => none
  | some (some s) => some s
  | _ => none
/-- how many lambdas stand in a slot -/
def getF (r : Rho) (i : Nat) : Option Nat := match r[i]? with
  | some (some ⟨.fns, _, .int n⟩) => some n.toNat
  | _ => none
def putS (r : Rho) (i : Nat) (s : Slot) : Rho := r.set i (some s)
def Ow.fl : Ow → Fl
  | .own => .own
  | _ => .val
def newS (o : Ow) (d : D) : Slot := ⟨o.fl, false, d⟩
def lendAll (r : Rho) : List Nat → Rho
  | [] => r
  | i :: is => lendAll (match getS r i with | some s => putS r i { s with f := .lent } | none => r) is
def unlend (r : Rho) : List Nat → Rho
  | [] => r
  | i :: is => unlend (match getS r i with | some s => if s.f = .lent then putS r i { s with f := .own } else r | none => r) is

mutual
def bindT : Tg → D → Rho → Option Rho
  | .nm i, d, r => if i < r.length then some (putS r i (newS .val d)) else none
  | .tup ts, .tup ds, r => bindTs ts ds r
  | .tup _, _, _ => none
def bindTs : List Tg → List D → Rho → Option Rho
  | [], [], r => some r
  | t :: ts, d :: ds, r => (bindT t d r).bind fun r' => bindTs ts ds r'
  | _, _, _ => none
end
mutual
def namesT : Tg → List Nat
  | .nm i => [i]
  | .tup ts => namesTs ts
def namesTs : List Tg → List Nat
  | [] => []
  | t :: ts => namesT t ++ namesTs ts
end
/-- the slots of a comprehension's own names, as they were: free, or of values -/
def saveAll (r : Rho) : List Nat → Option (List (Nat × Option Slot))
  | [] => some []
  | i :: is => match r[i]? with
    | some none => (saveAll r is).map ((i, none) :: ·)
    | some (some s) => if s.f = .val then (saveAll r is).map ((i, some s) :: ·) else none
    | none => none
def backAll (r : Rho) : List (Nat × Option Slot) → Rho
  | [] => r
  | (i, s) :: is => backAll (r.set i s) is
def wipeAll (r : Rho) : List Nat → Rho
  | [] => r
  | i :: is => wipeAll (r.set i none) is

/-! ### the evaluator -/
structure Fns where
  call : Nat → Rho → CR
  glo : Nat → Option D
  fuel : Nat
  /-- the bodies of the def's lambdas that are kept in a list -/
  lam : Nat → Rho → R (Ow × D)

def lift {α : Type} (o : Option α) (r : Rho) : R α := match o with
  | some a => .ok a r
  | none => .no
/-- an argument: a slot handed on by reference, or a value -/
inductive Arg where
  | ref (i : Nat) | tmp (o : Ow) (d : D)

def varE (i : Nat) (r : Rho) : R (Ow × D) := match getS r i with
  | some s => .ok (.val, s.d) (putS r i { s with f := .val })
  | none => .no
def varT (i : Nat) (r : Rho) : R D := match getS r i with
  | some s => .ok s.d r
  | none => .no
/-- an operand: a slot, looked at when it is used, or a value -/
inductive Opd where
  | slot (i : Nat) | tmp (d : D)
def opd (e : Ex) (m : Rho → R (Ow × D)) (r : Rho) : R Opd := match e with
  | .var i => match getS r i with
    | some _ => .ok (.slot i) r
    | none => .no
  | _ => (m r).bind fun v r' => .ok (.tmp v.2) r'
def res (r : Rho) : Opd → Option D
  | .slot i => match getS r i with
    | some s => some s.d
    | none => none
  | .tmp d => some d
def resL (r : Rho) : List Opd → Option (List D)
  | [] => some []
  | o :: os => match res r o with
    | some d => (resL r os).map (d :: ·)
    | none => none
/-- read for the moment -/
def trans (e : Ex) (m : Rho → R (Ow × D)) (r : Rho) : R D := (opd e m r).bind fun o r1 => match res r1 o with
  | some d => .ok d r1
  | none => .no
def argE (e : Ex) (m : Rho → R (Ow × D)) (r : Rho) : R Arg := match e with
  | .var i => match getS r i with
    | some s => match s.f with
      | .val => .ok (.tmp .val s.d) r
      | _ => .ok (.ref i) r
    | none => .no
  | _ => (m r).bind fun v r' => .ok (.tmp v.1 v.2) r'
def isNonE : Ex → Bool
  | .non => true
  | _ => false
/-- a slice's part -/
def partE (e : Ex) (m : Rho → R (Ow × D)) (r : Rho) : R (Option Int) := if isNonE e then .ok none r else (trans e m r).bind fun x r1 => match x with
  | .int i => .ok (some i) r1
  | _ => .no
/-- a test -/
def tst (e : Ex) (m : Rho → R (Ow × D)) (r : Rho) : R Bool := (trans e m r).bind fun x r1 => lift (truO x) r1
def op1 {α : Type} (x : Opd) (f : D → Option α) (r : Rho) : R α := match res r x with
  | some a => lift (f a) r
  | none => .no
def op2 {α : Type} (x y : Opd) (f : D → D → Option α) (r : Rho) : R α := match res r x, res r y with
  | some a, some b => lift (f a b) r
  | _, _ => .no
def op3 {α : Type} (x y z : Opd) (f : D → D → D → Option α) (r : Rho) : R α := match res r x, res r y, res r z with
  | some a, some b, some c => lift (f a b c) r
  | _, _, _ => .no
def opL {α : Type} (xs : List Opd) (f : List D → Option α) (r : Rho) : R α := match resL r xs with
  | some ds => lift (f ds) r
  | none => .no

def argSlots (r : Rho) : List Arg → Option Rho
  | [] => some []
  | .ref i :: as => match getS r i with
    | some s => (argSlots r as).map (some ⟨s.f, true, s.d⟩ :: ·)
    | none => none
  | .tmp o d :: as => (argSlots r as).map (some ⟨o.fl, true, d⟩ :: ·)
def refs : List Arg → List Nat
  | [] => []
  | .ref i :: as => i :: refs as
  | _ :: as => refs as
/-- behind a call -/
def backArgs (r : Rho) : List Arg → Rho → Option Rho
  | [], _ => some r
  | .ref i :: as, some s :: os => match getS r i with
    | some t => if s.p then backArgs (putS r i ⟨s.f, t.p, s.d⟩) as os else none
    | none => none
  | .tmp _ _ :: as, _ :: os => backArgs r as os
  | _, _ => none
def nodupN : List Nat → Bool
  | [] => true
  | i :: is => !is.contains i && nodupN is

def callR (F : Fns) (j : Nat) (as : List Arg) (r : Rho) : R (Ow × D) :=
  if nodupN (refs as) then match argSlots r as with
    | some ps => match F.call j ps with
      | .ret o d os => match backArgs r as os with
        | some r' => .ok (o, d) r'
        | none => .no
      | .ex c os => match backArgs r as os with
        | some r' => .ex c r'
        | none => .no
      | .no => .no
    | none => .no
  else .no

/-- the turns of a comprehension -/
def loopC {α : Type} (ns : List Nat) (step : D → Rho → R (Option α)) : List D → Rho → R (List α)
  | [], r => .ok [] r
  | d :: ds, r => match step d r with
    | .ok x r' => match loopC ns step ds (wipeAll r' ns) with
      | .ok xs r'' => .ok (match x with | some a => a :: xs | none => xs) r''
      | _ => .no
    | _ => .no
/-- one turn -/
def turnC {α : Type} (t : Tg) (c : Rho → R Bool) (e : Rho → R α) (d : D) (r : Rho) : R (Option α) := match bindT t d r with
  | some r1 => (c r1).bind fun k r2 => if k then (e r2).bind fun v r3 => .ok (some v) r3 else .ok none r2
  | none => .no
/-- one turn, and no more -/
def oneC (i : Nat) (ds : List D) (e : Rho → R (Ow × D)) (r : Rho) : R (Ow × D) := match ds with
  | [d] => match bindT (.nm i) d r with
    | some r1 => (e r1).bind fun v r2 => .ok v (wipeAll r2 [i])
    | none => .no
  | _ => .no
/-- one turn of any, all -/
def turnB (t : Tg) (c : Rho → R Bool) (e : Rho → R (Ow × D)) (d : D) (r : Rho) : R (Option Bool) := match bindT t d r with
  | some r1 => (c r1).bind fun k r2 => if k then (e r2).bind fun v r3 => match v.2 with
    | .bl b => .ok (some b) r3
    | _ => .no else .ok none r2
  | none => .no
/-- any: the first for which the step says k ends it -/
def loopA (ns : List Nat) (k : Bool) (step : D → Rho → R (Option Bool)) : List D → Rho → R Bool
  | [], r => .ok (!k) r
  | d :: ds, r => match step d r with
    | .ok (some b) r' => if b = k then .ok k (wipeAll r' ns) else loopA ns k step ds (wipeAll r' ns)
    | .ok none r' => loopA ns k step ds (wipeAll r' ns)
    | _ => .no
def inScope {α : Type} (t : Tg) (ws : List Nat) (r : Rho) (m : Rho → R α) : R α :=
  match saveAll r (namesT t) with
  | none => .no
  | some sv => match m (wipeAll (lendAll r ws) (namesT t)) with
    | .ok a r' => .ok a (unlend (backAll r' sv) ws)
    | _ => .no
def gnD : Gn → Bi
  | .sum => .sum | .min => .min | .max => .max | .sorted => .sorted | .tuple => .tuple
  | .any => .len | .all => .len
/-- the lambdas k, .. (so many): the places of those that aren't refused -/
def evR (lam : Nat → Rho → R (Ow × D)) (cs : List Nat) (z : List Nat) : Nat → Nat → Rho → R (List D)
  | _, 0, r => .ok [] r
  | k, m + 1, r => match lam k r with
    | .ok v r' => match cmpD .ne v.2 (.str z) with
      | some b => (evR lam cs z (k + 1) m r').bind fun ds r2 => .ok (if b then .int (k : Nat) :: ds else ds) r2
      | none => .no
    | .ex c r' => if cs.contains c then evR lam cs z (k + 1) m r' else .no
    | .no => .no
def gnA (k : Bool) (t : Tg) (sc : Rho → R (List D × List Nat)) (c : Rho → R Bool) (e : Rho → R (Ow × D)) (r : Rho) : R (Ow × D) := (sc r).bind fun its r1 =>
  (inScope t its.2 r1 fun r2 => loopA (namesT t) k (turnB t c e) its.1 r2).bind fun b r' => .ok (.val, .bl b) r'
def gnC (f : List D → Option (Ow × D)) (t : Tg) (sc : Rho → R (List D × List Nat)) (c : Rho → R Bool) (e : Rho → R (Ow × D)) (r : Rho) : R (Ow × D) := (sc r).bind fun its r1 => if few its.1.length then
  (inScope t its.2 r1 fun r2 => loopC (namesT t) (turnC t c (fun r3 => (e r3).bind fun v r4 => .ok v.2 r4)) its.1 r2).bind fun ds r' => lift (f ds) r' else .no
/-- a generator expression and who asks it -/
def gnEv (g : Gn) (t : Tg) (sc : Rho → R (List D × List Nat)) (c : Rho → R Bool) (e : Rho → R (Ow × D)) (r : Rho) : R (Ow × D) := match g with
  | .any => gnA true t sc c e r
  | .all => gnA false t sc c e r
  | g => gnC (consD (gnD g)) t sc c e r
def enumD (n : Nat) : List D → List D
  | [] => []
  | d :: ds => .tup [.int n, d] :: enumD (n + 1) ds
def zipD : List D → List D → List D
  | x :: xs, y :: ys => .tup [x, y] :: zipD xs ys
  | _, _ => []
def rangeD (a b : Int) : List D := (List.range (b - a).toNat).map fun (k : Nat) => .int (a + k)
def rangeC (a c : Int) : Nat → List D
  | 0 => []
  | n + 1 => .int a :: rangeC (a + c) c n
/-- lent while it is walked -/
def ownO (o : Opd) (r : Rho) : List Nat := match o with
  | .slot i => match getS r i with
    | some s => if s.f = .own then [i] else []
    | none => []
  | .tmp _ => []
def intOf : D → Option Int
  | .int i => some i
  | _ => none
def rngOk (i : Int) : Bool := decide (-(2 ^ 62) ≤ i) && decide (i < 2 ^ 62)
def rng1 : D → Option (List D × List Nat)
  | .int n => if rngOk n then some (rangeD 0 n, []) else none
  | _ => none
def rng2 : D → D → Option (List D × List Nat)
  | .int i, .int j => if rngOk i && rngOk j then some (rangeD i j, []) else none
  | _, _ => none
def zipV (ws : List Nat) : D → D → Option (List D × List Nat)
  | .lst ds, .lst es => some (zipD ds es, ws)
  | .tup ds, .tup es => some (zipD ds es, ws)
  | _, _ => none
def negD : D → Option (Ow × D)
  | .int i => some (.val, .int (-i))
  | _ => none
def notD (x : D) : Option (Ow × D) := (truO x).map fun k => (.val, .bl (!k))
def cmpV (o : COp) (x y : D) : Option (Ow × D) := (cmpD o x y).map fun k => (.val, .bl k)
def idxV (x k : D) : Option (Ow × D) := (idxD x k).map fun d => (.val, d)
def mtV (m : Mt) : List D → Option (Ow × D)
  | x :: ds => mtD m x ds
  | [] => none
def fmtD : D → Option (List Nat)
  | .int i => if decide (i.natAbs.log2 < 1920) then some (intText i) else none
  | .str s => if few s.length then some s else none
  | _ => none

mutual
def evE (F : Fns) : Ex → Rho → R (Ow × D)
  | .non, r => .ok (.val, .non) r
  | .bl b, r => .ok (.val, .bl b) r
  | .int i, r => .ok (.val, .int i) r
  | .str s, r => .ok (.val, .str s) r
  | .var i, r => varE i r
  | .glo g, r => lift ((F.glo g).map fun d => (.val, d)) r
  | .tup es, r => (evL F es r).bind fun ds r' => .ok (.val, .tup ds) r'
  | .lst es, r => (evL F es r).bind fun ds r' => .ok (.own, .lst ds) r'
  | .dct kvs, r => (evK F kvs r).bind fun kvs r' => .ok (.own, .dct (putAll [] kvs)) r'
  | .bin o a b, r => (opd a (evE F a) r).bind fun x r1 => (opd b (evE F b) r1).bind fun y r2 => op2 x y (binD o) r2
  | .neg a, r => (opd a (evE F a) r).bind fun x r1 => op1 x negD r1
  | .not a, r => (opd a (evE F a) r).bind fun x r1 => op1 x notD r1
  | .cmp o a b, r => (opd a (evE F a) r).bind fun x r1 => (opd b (evE F b) r1).bind fun y r2 => op2 x y (cmpV o) r2
  | .cmp2 o o' a b c, r => (opd a (evE F a) r).bind fun x r1 => (opd b (evE F b) r1).bind fun y r2 => (op2 x y (cmpD o) r2).bind fun k r3 =>
      if k then (opd c (evE F c) r3).bind fun z r4 => op2 y z (cmpV o') r4 else .ok (.val, .bl false) r3
  | .and es, r => (evA F es r).bind fun k r' => .ok (.val, .bl k) r'
  | .or es, r => (evO F es r).bind fun k r' => .ok (.val, .bl k) r'
  | .ife c a b, r => (tst c (evE F c) r).bind fun k r1 => if k then evE F a r1 else evE F b r1
  | .idx a i, r => (opd a (evE F a) r).bind fun x r1 => (opd i (evE F i) r1).bind fun k r2 => op2 x k idxV r2
  | .slc a lo hi, r => (opd a (evE F a) r).bind fun x r1 => (partE lo (evE F lo) r1).bind fun l r2 => (partE hi (evE F hi) r2).bind fun h r3 => op1 x (slcD l h) r3
  | .rev a, r => (opd a (evE F a) r).bind fun x r1 => op1 x revD r1
  | .call j es, r => (evG F es r).bind fun as r' => callR F j as r'
  | .bi b es, r => (evT F es r).bind fun ds r' => opL ds (biD b) r'
  | .mt m x es, r => (opd x (evE F x) r).bind fun x r1 => (evT F es r1).bind fun ds r2 => opL (x :: ds) (mtV m) r2
  | .mu m x es, r => (evL F es r).bind fun ds r1 => match getS r1 x with
    | some s => match s.f with
      | .own => match muD m s.d ds with
        | some (d', v) => .ok (.val, v) (putS r1 x { s with d := d' })
        | none => .no
      | _ => .no
    | none => .no
  | .lc e t s c, r => (evSc F s r).bind fun its r1 => if few its.1.length then (inScope t its.2 r1 fun r2 => loopC (namesT t) (turnC t (evC F c) (fun r3 => (evE F e r3).bind fun v r4 => .ok v.2 r4)) its.1 r2).bind fun ds r' => .ok (.own, .lst ds) r' else .no
  | .lc1 e i s, r => (evSc F s r).bind fun its r1 => (inScope (.nm i) its.2 r1 fun r2 => oneC i its.1 (evE F e) r2).bind fun v r' => if v.1 = .own then .ok (.one, .lst [v.2]) r' else .no
  | .dc k e t s c, r => (evSc F s r).bind fun its r1 => (inScope t its.2 r1 fun r2 => loopC (namesT t) (turnC t (evC F c) (fun r5 => (evE F k r5).bind fun kv r6 => if okK kv.2 then (evE F e r6).bind fun v r7 => .ok (kv.2, v.2) r7 else .no)) its.1 r2).bind fun kvs r' => .ok (.own, .dct (putAll [] kvs)) r'
  | .gn g e t s c, r => gnEv g t (evSc F s) (evC F c) (evE F e) r
  | .cn b s, r => (evSc F s r).bind fun its r' => lift (consD b its.1) r'
  | .fst es, r => (evF F es [] r).bind fun t r' => .ok (.val, .str t) r'
  | .told e cs z, r => match evE F e r with
    | .ok v r' => .ok v r'
    | .ex c r' => if cs.contains c then .ok (.val, .str z) r' else .no
    | .no => .no
  | .refused x k f n cs z, r => match getF r x with
    | some m => if m = n then (inScope (.tup [.nm k, .nm f]) [] r fun r2 => evR F.lam cs z 0 n r2).bind fun ds r' => .ok (.own, .lst ds) r' else .no
    | none => .no
/-- a text's parts -/
def evF (F : Fns) : List Ex → List Nat → Rho → R (List Nat)
  | [], acc, r => .ok acc r
  | e :: es, acc, r => (trans e (evE F e) r).bind fun x r1 => match fmtD x with
    | some t => if few (acc.length + t.length) then evF F es (acc ++ t) r1 else .no
    | none => .no
/-- values that stay -/
def evL (F : Fns) : List Ex → Rho → R (List D)
  | [], r => .ok [] r
  | e :: es, r => (evE F e r).bind fun v r1 => (evL F es r1).bind fun ds r2 => .ok (v.2 :: ds) r2
/-- values for the moment -/
def evT (F : Fns) : List Ex → Rho → R (List Opd)
  | [], r => .ok [] r
  | e :: es, r => (opd e (evE F e) r).bind fun d r1 => (evT F es r1).bind fun ds r2 => .ok (d :: ds) r2
def evG (F : Fns) : List Ex → Rho → R (List Arg)
  | [], r => .ok [] r
  | e :: es, r => (argE e (evE F e) r).bind fun a r1 => (evG F es r1).bind fun as r2 => .ok (a :: as) r2
def evK (F : Fns) : List Ex → Rho → R (List (D × D))
  | [], r => .ok [] r
  | k :: v :: ks, r => (evE F k r).bind fun x r1 => if okK x.2 then (evE F v r1).bind fun y r2 => (evK F ks r2).bind fun kvs r3 => .ok ((x.2, y.2) :: kvs) r3 else .no
  | _, _ => .no
/-- and: all are bools -/
def evA (F : Fns) : List Ex → Rho → R Bool
  | [], r => .ok true r
  | e :: es, r => (trans e (evE F e) r).bind fun x r1 => match x with
    | .bl true => evA F es r1
    | .bl false => .ok false r1
    | _ => .no
/-- what a comprehension asks -/
def evC (F : Fns) : List Ex → Rho → R Bool
  | [], r => .ok true r
  | [e], r => tst e (evE F e) r
  | _, _ => .no
def evO (F : Fns) : List Ex → Rho → R Bool
  | [], r => .ok false r
  | e :: es, r => (trans e (evE F e) r).bind fun x r1 => match x with
    | .bl true => .ok true r1
    | .bl false => evO F es r1
    | _ => .no
/-- the items, and the slots that are lent meanwhile -/
def evSc (F : Fns) : Sc → Rho → R (List D × List Nat)
  | .ex e, r => (opd e (evE F e) r).bind fun x r1 => op1 x (fun d => (seqD d).map fun ds => (ds, ownO x r1)) r1
  | .range1 e, r => (opd e (evE F e) r).bind fun x r1 => op1 x rng1 r1
  | .range2 a b, r => (opd a (evE F a) r).bind fun x r1 => (opd b (evE F b) r1).bind fun y r2 => op2 x y rng2 r2
  | .range3 a b c, r => (trans a (evE F a) r).bind fun x r1 => (trans b (evE F b) r1).bind fun y r2 => (trans c (evE F c) r2).bind fun z r3 =>
      lift ((intOf x).bind fun i => (intOf y).bind fun j => (intOf z).bind fun k => if k = -1 then some (rangeC i (-1) (i - j).toNat, []) else none) r3
  | .enum e, r => (opd e (evE F e) r).bind fun x r1 => op1 x (fun d => (seqD d).map fun ds => (enumD 0 ds, ownO x r1)) r1
  | .zip a b, r => (opd a (evE F a) r).bind fun x r1 => (opd b (evE F b) r1).bind fun y r2 => op2 x y (zipV (ownO x r2 ++ ownO y r2)) r2
  | .items _, _ => .no
  | .values _, _ => .no
end

/-- values with their flags -/
def evW (F : Fns) : List Ex → Rho → R (List (Ow × D))
  | [], r => .ok [] r
  | e :: es, r => (evE F e r).bind fun v r1 => (evW F es r1).bind fun ds r2 => .ok (v :: ds) r2

def R.bindS {α : Type} (m : R α) (f : α → Rho → SR) : SR := match m with
  | .ok a r => f a r
  | .ex c r => .ex c r
  | .no => .no
def putL (r : Rho) : List Nat → List (Ow × D) → Option Rho
  | [], [] => some r
  | i :: is, v :: vs => if i < r.length then putL (putS r i (newS v.1 v.2)) is vs else none
  | _, _ => none
def unlS (ws : List Nat) : SR → SR
  | .nx r => .nx (unlend r ws)
  | .rt o d r => .rt o d (unlend r ws)
  | .ex c r => .ex c (unlend r ws)
  | .bk r => .bk (unlend r ws)
  | .ct r => .ct (unlend r ws)
  | .no => .no
/-- the turns of a for -/
def loopF (step : D → Rho → SR) : List D → Rho → SR
  | [], r => .nx r
  | d :: ds, r => match step d r with
    | .nx r' => loopF step ds r'
    | .ct r' => loopF step ds r'
    | .bk r' => .nx r'
    | q => q
/-- the turns of a while -/
def loopW (test : Rho → R Bool) (body : Rho → SR) : Nat → Rho → SR
  | 0, _ => .no
  | n + 1, r => (test r).bindS fun k r1 => if k then match body r1 with
    | .nx r' => loopW test body n r'
    | .ct r' => loopW test body n r'
    | .bk r' => .nx r'
    | q => q else .nx r1
/-- x op= y, x an int or a text -/
def augV (o : BOp) (x y : D) : Option D := match o, x, y with
  | .add, .int i, .int j => some (.int (i + j))
  | .sub, .int i, .int j => some (.int (i - j))
  | .mul, .int i, .int j => if (decide (-(2 ^ 64) < i) && decide (i < 2 ^ 64)) || (decide (-(2 ^ 64) < j) && decide (j < 2 ^ 64)) then some (.int (i * j)) else none
  | .fdiv, .int i, .int j => if decide (0 < j) && decide (j < 1073741824) then some (.int (i.fdiv j)) else none
  | .mod, .int i, .int j => if decide (0 < j) then some (.int (i.fmod j)) else none
  | .add, .str s, .str t => if few (s.length + t.length) then some (.str (s ++ t)) else none
  | _, _, _ => none

def setR (x : Nat) (o : Opd) (v : D) (r : Rho) : SR := match res r o, getS r x with
  | some k, some s => match s.f with
    | .own => match setD s.d k v with
      | some d => .nx (putS r x { s with d := d })
      | none => .no
    | _ => .no
  | _, _ => .no
def augR (o : BOp) (x : Nat) (y : Opd) (r : Rho) : SR := match res r y, getS r x with
  | some d, some s => match augV o s.d d with
    | some v => .nx (putS r x (newS .val v))
    | none => .no
  | _, _ => .no
def itemR (x : Nat) (k : Opd) (r : Rho) : Option D := match res r k, getS r x with
  | some (.int i), some ⟨_, _, .lst ds⟩ => (place i ds.length).bind fun j => ds[j]?
  | _, _ => none
def augsR (o : BOp) (x : Nat) (k : Opd) (a : D) (y : Opd) (r : Rho) : SR := match res r y with
  | some b => match augV o a b with
    | some v => setR x k v r
    | none => .no
  | none => .no

def retE (F : Fns) (e : Ex) (r : Rho) : R (Ow × D) := match e with
  | .var i => match getS r i with
    | some s => if s.f = .own && !s.p then .ok (.own, s.d) (r.set i none) else evE F e r
    | none => .no
  | _ => evE F e r

mutual
def evS (F : Fns) : St → Rho → SR
  | .asg i e, r => (evE F e r).bindS fun v r1 => if i < r1.length then .nx (putS r1 i (newS v.1 v.2)) else .no
  | .par ts es, r => (evW F es r).bindS fun vs r1 => match putL r1 ts vs with
    | some r2 => .nx r2
    | none => .no
  | .unp t e, r => (evE F e r).bindS fun v r1 => match bindT t v.2 r1 with
    | some r2 => .nx r2
    | none => .no
  | .set x i e, r => (evE F e r).bindS fun v r1 => match getS r1 x with
    | none => .no
    | some _ => (opd i (evE F i) r1).bindS fun o r2 => setR x o v.2 r2
  | .aug o x e, r => match getS r x with
    | none => .no
    | some _ => (opd e (evE F e) r).bindS fun y r1 => augR o x y r1
  | .augs o x i e, r => match getS r x with
    | none => .no
    | some _ => (opd i (evE F i) r).bindS fun k r1 => match itemR x k r1 with
      | none => .no
      | some a => (opd e (evE F e) r1).bindS fun y r2 => augsR o x k a y r2
  | .exp e, r => (evE F e r).bindS fun _ r1 => .nx r1
  | .ret e, r => (retE F e r).bindS fun v r1 => .rt v.1 v.2 r1
  | .ret0, r => .rt .val .non r
  | .ifs c a b, r => (tst c (evE F c) r).bindS fun k r1 => if k then evSs F a r1 else evSs F b r1
  | .for t s b, r => (evSc F s r).bindS fun its r1 => unlS its.2 (loopF (fun d r2 => match bindT t d r2 with
      | some r3 => evSs F b r3
      | none => .no) its.1 (lendAll r1 its.2))
  | .whl c b, r => loopW (fun r1 => tst c (evE F c) r1) (fun r1 => evSs F b r1) F.fuel r
  | .for1 i e b, r => (evE F e r).bindS fun v r1 => match v with
    | (.one, .lst [d]) => if i < r1.length then match evSs F b (putS r1 i (newS .own d)) with
      | .ct r2 => .nx r2
      | .bk r2 => .nx r2
      | q => q else .no
    | _ => .no
  | .raise c, r => .ex c r
  | .lams x n, r => if x < r.length then .nx (putS r x ⟨.fns, false, .int n⟩) else .no
  | .lamsAdd x m n, r => match getF r x with
    | some m' => if m' = m then .nx (putS r x ⟨.fns, false, .int ((m + n : Nat) : Int)⟩) else .no
    | none => .no
  | .pass, r => .nx r
  | .brk, r => .bk r
  | .cont, r => .ct r
def evSs (F : Fns) : List St → Rho → SR
  | [], r => .nx r
  | s :: ss, r => match evS F s r with
    | .nx r' => evSs F ss r'
    | q => q
end

structure Def where
  np : Nat
  ns : Nat
  body : List St
  lams : List Ex := []
/-- the slots at a def's entry -/
def entry (d : Def) (ps : Rho) : Rho := ps ++ List.replicate (d.ns - d.np) none
def keepP : Option Slot → Option Slot
  | some s => if s.p then some s else none
  | none => none
/-- the arguments behind a call: those that are still the very things -/
def outs (n : Nat) (r : Rho) : Rho := (r.take n).map keepP
def runDef (F : Fns) (d : Def) (ps : Rho) : CR := if ps.length = d.np then match evSs F d.body (entry d ps) with
  | .nx r => .ret .val .non (outs d.np r)
  | .rt o v r => .ret o v (outs d.np r)
  | .ex c r => .ex c (outs d.np r)
  | _ => .no else .no
structure Prog where
  defs : List Def
  glo : List D
def lamsOf (F : Fns) (es : List Ex) (k : Nat) (r : Rho) : R (Ow × D) := match es[k]? with
  | some e => evE F e r
  | none => .no
def callN (P : Prog) (fuel : Nat) : Nat → Nat → Rho → CR
  | 0, _, _ => .no
  | n + 1, j, ps => match P.defs[j]? with
    | some d => runDef ⟨callN P fuel n, fun g => P.glo[g]?, fuel, lamsOf ⟨callN P fuel n, fun g => P.glo[g]?, fuel, fun _ _ => .no⟩ d.lams⟩ d ps
    | none => .no
end VS
end

section
set_option autoImplicit false
set_option linter.all false
/-! VRel: plain data and the abstract heap. -/
namespace VS
open PySem PySem.Spec PyProof.Rows L2

def keyK : D → Option Key
  | .int i => some (.inl i)
  | .str s => some (.inr ⟨s.toArray⟩)
  | _ => none
def keysK : List D → Option (List Key)
  | [] => some []
  | d :: ds => (keyK d).bind fun k => (keysK ds).map (k :: ·)
def keyT : D → Option (List Key)
  | .tup ds => keysK ds
  | _ => none
def keysT : List D → Option (List (List Key))
  | [] => some []
  | d :: ds => (keyT d).bind fun k => (keysT ds).map (k :: ·)
/-- the object of a dict with these keys, the values vs -/
def DicO (kvs : List (D × D)) (vs : List V) (u : HO) : Prop :=
  (∃ ks, keysK (kvs.map (·.1)) = some ks ∧ ks.length = vs.length ∧ u = .dK (ks.zip vs)) ∨ (∃ ks, keysT (kvs.map (·.1)) = some ks ∧ ks.length = vs.length ∧ u = .dT (ks.zip vs))

section
variable (K : PySem.W.Frag)
mutual
/-- v bears d; the lists and dicts in it stand at addresses of P -/
def Rp (P : Addr → Prop) (H : Hp) : D → V → Prop
  | .non, v => v = .non
  | .bl b, v => v = .bl b
  | .int i, v => v = .int i
  | .str s, v => v = .str ⟨s.toArray⟩
  | .tup ds, v => ∃ a vs, v = .ref a ∧ SqT K H a vs ∧ RpL P H ds vs
  | .lst ds, v => ∃ a vs, v = .ref a ∧ P a ∧ Rd H a (.lst vs) ∧ RpL P H ds vs
  | .dct kvs, v => ∃ a vs u, v = .ref a ∧ P a ∧ Rd H a u ∧ DicO kvs vs u ∧ RpK P H kvs vs
def RpL (P : Addr → Prop) (H : Hp) : List D → List V → Prop
  | [], vs => vs = []
  | d :: ds, vs => ∃ v vs', vs = v :: vs' ∧ Rp P H d v ∧ RpL P H ds vs'
def RpK (P : Addr → Prop) (H : Hp) : List (D × D) → List V → Prop
  | [], vs => vs = []
  | kv :: r, vs => ∃ v vs', vs = v :: vs' ∧ Rp P H kv.2 v ∧ RpK P H r vs'
end
/-- the very object at a bears d -/
def Top (P : Addr → Prop) (H : Hp) (d : D) (a : Addr) : Prop := match d with
  | .lst ds => ∃ vs, H a = some (.lst vs) ∧ RpL K P H ds vs
  | .dct kvs => ∃ vs u, H a = some u ∧ DicO kvs vs u ∧ RpK K P H kvs vs
  | _ => False
/-- .. to be read -/
def TopR (P : Addr → Prop) (H : Hp) (d : D) (a : Addr) : Prop := match d with
  | .lst ds => ∃ vs, Rd H a (.lst vs) ∧ RpL K P H ds vs
  | .dct kvs => ∃ vs u, Rd H a u ∧ DicO kvs vs u ∧ RpK K P H kvs vs
  | _ => False
/-- an operand: its top may be anybody's -/
def RpT (P : Addr → Prop) (H : Hp) (d : D) (v : V) : Prop := Rp K P H d v ∨ ∃ a, v = .ref a ∧ TopR K P H d a
end
variable {K : PySem.W.Frag}

/-! ### change of the heap, of the addresses -/
/-- what stands at addresses of P, and every tuple, stays -/
def Keep (P : Addr → Prop) (H H' : Hp) : Prop := ∀ a o, H a = some o → (P a ∧ (∀ ps, o ≠ .tbl ps)) ∨ (∃ vs, o = .tup vs) ∨ (∃ u vs, o = .frz u (.tup vs)) → H' a = some o
theorem Rd.keep {H H' : Hp} {a : Addr} {u : HO} (h : Rd H a u) (k : ∀ o, H a = some o → o = u ∨ (∃ b, o = .frz b u) → H' a = some o) : Rd H' a u := by
  rcases h with h | ⟨o, h⟩
  · exact .inl (k _ h (.inl rfl))
  · exact .inr ⟨o, k _ h (.inr ⟨o, rfl⟩)⟩
theorem SqT.keep {P : Addr → Prop} {H H' : Hp} (k : Keep P H H') {a : Addr} {vs : List V} (h : SqT K H a vs) : SqT K H' a vs := by
  rcases h with h | h
  · refine .inl (Rd.keep h fun o e q => k a o e ?_)
    rcases q with rfl | ⟨b, rfl⟩
    · exact .inr (.inl ⟨_, rfl⟩)
    · exact .inr (.inr ⟨_, _, rfl⟩)
  · exact .inr h
theorem rdL_keep {P : Addr → Prop} {H H' : Hp} (k : Keep P H H') {a : Addr} {vs : List V} (p : P a) (h : Rd H a (.lst vs)) : Rd H' a (.lst vs) := by
  refine Rd.keep h fun o e q => k a o e (.inl ⟨p, fun ps z => ?_⟩)
  rcases q with rfl | ⟨b, rfl⟩ <;> cases z
theorem rd_some {H : Hp} {a : Addr} {u : HO} (h : Rd H a u) : ∃ o, H a = some o := by
  rcases h with h | ⟨o, h⟩ <;> exact ⟨_, h⟩
theorem DicO.notbl {kvs : List (D × D)} {vs : List V} {u : HO} (h : DicO kvs vs u) : (∀ ps, u ≠ .tbl ps) ∧ (∀ b ps, HO.frz b u ≠ .tbl ps) := by
  constructor
  · intro ps z
    rcases h with ⟨_, _, _, h⟩ | ⟨_, _, _, h⟩ <;> rw [h] at z <;> cases z
  · intro b ps z; cases z
theorem DicO.rd {P : Addr → Prop} {H H' : Hp} {kvs : List (D × D)} {vs : List V} {u : HO} (k : Keep P H H') {a : Addr} (p : P a) (h : DicO kvs vs u) (r : Rd H a u) : Rd H' a u :=
  Rd.keep r fun o e q => k a o e (.inl ⟨p, fun ps z => by rcases q with rfl | ⟨b, rfl⟩ <;> first | exact h.notbl.1 ps z | exact h.notbl.2 b ps z⟩)
mutual
theorem Rp.keep {P P' : Addr → Prop} {H H' : Hp} (k : Keep P H H') (hp : ∀ a, (∃ o, H a = some o) → P a → P' a) : ∀ (d : D) (v : V), Rp K P H d v → Rp K P' H' d v
  | .non, v, h => by simpa only [Rp] using h
  | .bl b, v, h => by simpa only [Rp] using h
  | .int i, v, h => by simpa only [Rp] using h
  | .str s, v, h => by simpa only [Rp] using h
  | .tup ds, v, h => by
    simp only [Rp] at h ⊢
    obtain ⟨a, vs, e, q, r⟩ := h
    exact ⟨a, vs, e, SqT.keep k q, RpL.keep k hp ds vs r⟩
  | .lst ds, v, h => by
    simp only [Rp] at h ⊢
    obtain ⟨a, vs, e, p, q, r⟩ := h
    exact ⟨a, vs, e, hp a (rd_some q) p, rdL_keep k p q, RpL.keep k hp ds vs r⟩
  | .dct kvs, v, h => by
    simp only [Rp] at h ⊢
    obtain ⟨a, vs, u, e, p, q, dq, r⟩ := h
    exact ⟨a, vs, u, e, hp a (rd_some q) p, DicO.rd k p dq q, dq, RpK.keep k hp kvs vs r⟩
theorem RpL.keep {P P' : Addr → Prop} {H H' : Hp} (k : Keep P H H') (hp : ∀ a, (∃ o, H a = some o) → P a → P' a) : ∀ (ds : List D) (vs : List V), RpL K P H ds vs → RpL K P' H' ds vs
  | [], vs, h => by simpa only [RpL] using h
  | d :: ds, vs, h => by
    simp only [RpL] at h ⊢
    obtain ⟨v, vs', e, q, r⟩ := h
    exact ⟨v, vs', e, Rp.keep k hp d v q, RpL.keep k hp ds vs' r⟩
theorem RpK.keep {P P' : Addr → Prop} {H H' : Hp} (k : Keep P H H') (hp : ∀ a, (∃ o, H a = some o) → P a → P' a) : ∀ (kvs : List (D × D)) (vs : List V), RpK K P H kvs vs → RpK K P' H' kvs vs
  | [], vs, h => by simpa only [RpK] using h
  | (x, d) :: ds, vs, h => by
    simp only [RpK] at h ⊢
    obtain ⟨v, vs', e, q, r⟩ := h
    exact ⟨v, vs', e, Rp.keep k hp d v q, RpK.keep k hp ds vs' r⟩
end
end VS
end

section
set_option autoImplicit false
set_option linter.all false
/-! VRel2: slots and the heap, frames, what lies behind an expression. -/
namespace VS
open PySem PySem.Spec PyProof.Rows L2

def Own (ρ : Rho) (σ : L2.St) (a : Addr) : Prop := ∃ (i : Nat) (s : Slot), ρ[i]? = some (some s) ∧ s.f = .own ∧ σ[i]? = some (some (.ref a))
def Priv (ρ : Rho) (σ : L2.St) (a : Addr) : Prop := ∃ (i : Nat) (s : Slot), ρ[i]? = some (some s) ∧ (s.f = .own ∨ s.f = .lent) ∧ σ[i]? = some (some (.ref a))
def Av (Z : Addr → Prop) (ρ : Rho) (σ : L2.St) (a : Addr) : Prop := ¬ Z a ∧ ¬ Priv ρ σ a
theorem Own.priv {ρ : Rho} {σ : L2.St} {a : Addr} (h : Own ρ σ a) : Priv ρ σ a := let ⟨i, s, h1, h2, h3⟩ := h; ⟨i, s, h1, .inl h2, h3⟩

/-- what the lambdas of a slot are: the frame's business -/
structure RC where
  K : PySem.W.Frag
  /-- the class of an error -/
  cv : Nat → Value
  /-- the tables of code objects, by their names -/
  T : List (Addr × PySem.Str × List (Nat × Nat))
  fo : Nat → Nat → V → Hp → Prop
  /-- it hangs on what is tracked and no list of plain data -/
  st : ∀ i n v H H', fo i n v H → (∀ a o, H a = some o → (∀ ps, o ≠ .tbl ps) → (∃ φ, o = .ext φ) ∨ v = .ref a → H' a = some o) → fo i n v H'

/-- is the place one of those? -/
def inG (G : List (Nat × Nat)) (p : Pos) : Bool := G.contains (p.line, p.col)
/-- the table at P: each code object that it tells bears the name q, but for those at the places G -/
def TabS (H : Hp) (P : Addr) (q : PySem.Str) (G : List (Nat × Nat)) : Prop := ∃ ps : Array Value, H P = some (.tbl ps) ∧ TriplesOk ps.toList ∧ ∀ (pos : Pos) (cv : Value), codeAmong pos ps.toList = some cv → inG G pos = false → ∃ c, cv = .ref c ∧ H c = some (LamX.CodeO c q)
abbrev Tbs := List (Addr × PySem.Str × List (Nat × Nat))
def Tabs (T : Tbs) (H : Hp) : Prop := ∀ p ∈ T, TabS H p.1 p.2.1 p.2.2
theorem TabS.ext {H H' : Hp} {P : Addr} {q : PySem.Str} {G : List (Nat × Nat)} (t : TabS H P q G) (e : ∀ b o, H b = some o → H' b = some o) : TabS H' P q G := by
  obtain ⟨ps, h1, h2, h3⟩ := t
  refine ⟨ps, e _ _ h1, h2, fun pos cv hc hg => ?_⟩
  obtain ⟨c, e1, e2⟩ := h3 pos cv hc hg
  exact ⟨c, e1, e _ _ e2⟩
theorem Tabs.ext {T : Tbs} {H H' : Hp} (t : Tabs T H) (e : ∀ b o, H b = some o → H' b = some o) : Tabs T H' := fun p hp => (t p hp).ext e
theorem TabS.nil {H : Hp} {P : Addr} {q : PySem.Str} {G : List (Nat × Nat)} (h : H P = some (.tbl #[])) : TabS H P q G := ⟨#[], h, True.intro, fun pos cv hc => by
  have z : codeAmong pos [] = some cv := hc
  simp [codeAmong] at z⟩
/-- what the longer table tells -/
theorem among_end {pos p' : Pos} {c cv : Value} (l : List Value) (h : TriplesOk l) (hc : codeAmong p' (l ++ [rawInt pos.line, rawInt pos.col, c]) = some cv) : codeAmong p' l = some cv ∨ (cv = c ∧ p'.line = pos.line ∧ p'.col = pos.col) := by
  fun_induction TriplesOk l with
  | case1 =>
    simp only [List.nil_append, rawInt, codeAmong] at hc
    split at hc
    · rename_i q
      simp only [Bool.and_eq_true, beq_iff_eq] at q
      exact .inr ⟨(Option.some.inj hc).symm, by omega, by omega⟩
    · cases hc
  | case2 a t b u x rest ih =>
    simp only [List.cons_append, codeAmong] at hc ⊢
    split at hc
    · rename_i q
      rw [if_pos q]
      exact .inl hc
    · rename_i q
      rw [if_neg q]
      exact ih h hc
  | case3 l h1 h2 => exact h.elim
/-- tables and code objects stay -/
theorem tabs_keep {T : Tbs} {H H' : Hp} (t : Tabs T H) (k : ∀ b o, H b = some o → (∃ ps, o = .tbl ps) ∨ (∃ φ, o = .ext φ) → H' b = some o) : Tabs T H' := fun p hp => by
  obtain ⟨ps, h1, h2, h3⟩ := t p hp
  refine ⟨ps, k _ _ h1 (.inl ⟨ps, rfl⟩), h2, fun pos cv hc hg => ?_⟩
  obtain ⟨c, e, h⟩ := h3 pos cv hc hg
  exact ⟨c, e, k _ _ h (.inr ⟨_, rfl⟩)⟩
structure Rel (C : RC) (Z : Addr → Prop) (ρ : Rho) (σ : L2.St) (H : Hp) : Prop where
  len : ρ.length = σ.length
  tab : Tabs C.T H
  zd : ∀ a, Z a → ∃ o, H a = some o
  val : ∀ (i : Nat) (s : Slot), ρ[i]? = some (some s) → s.f = .val → ∃ v, σ[i]? = some (some v) ∧ Rp C.K (Av Z ρ σ) H s.d v
  own : ∀ (i : Nat) (s : Slot), ρ[i]? = some (some s) → s.f = .own → ∃ a, σ[i]? = some (some (.ref a)) ∧ ¬ Z a ∧ Top C.K (Av Z ρ σ) H s.d a
  lent : ∀ (i : Nat) (s : Slot), ρ[i]? = some (some s) → s.f = .lent → ∃ a, σ[i]? = some (some (.ref a)) ∧ ¬ Z a ∧ TopR C.K (Av Z ρ σ) H s.d a
  fns : ∀ (i : Nat) (s : Slot), ρ[i]? = some (some s) → s.f = .fns → ∃ n v, s.d = .int (n : Nat) ∧ σ[i]? = some (some v) ∧ C.fo i n v H ∧ ∀ a, v = .ref a → (∃ o, H a = some o) ∧ ¬ Z a ∧ ¬ Priv ρ σ a
  apart : ∀ (i j : Nat) (s t : Slot) (a : Addr), ρ[i]? = some (some s) → ρ[j]? = some (some t) → (s.f = .own ∨ s.f = .lent) → (t.f = .own ∨ t.f = .lent) → σ[i]? = some (some (.ref a)) → σ[j]? = some (some (.ref a)) → i = j

/-- what is not owned stays -/
structure Fr (ρ : Rho) (σ : L2.St) (H H' : Hp) : Prop where
  kp : ∀ a o, H a = some o → (∀ ps, o ≠ .tbl ps) → ¬ Own ρ σ a → H' a = some o
  dom : ∀ a o, H a = some o → ∃ o', H' a = some o'
theorem Fr.refl (ρ : Rho) (σ : L2.St) (H : Hp) : Fr ρ σ H H := ⟨fun _ _ h _ _ => h, fun _ o h => ⟨o, h⟩⟩

/-- an expression changes slots so -/
structure Mono (ρ ρ' : Rho) : Prop where
  len : ρ'.length = ρ.length
  bk : ∀ (i : Nat) (s' : Slot), ρ'[i]? = some (some s') → ∃ s, ρ[i]? = some (some s) ∧ s'.p = s.p ∧ (s'.f = s.f ∨ (s'.f = .val ∧ s.f ≠ .fns)) ∧ (s.f ≠ .own → s'.d = s.d)
  fw : ∀ (i : Nat) (s : Slot), ρ[i]? = some (some s) → ∃ s', ρ'[i]? = some (some s')
theorem Mono.refl (ρ : Rho) : Mono ρ ρ := ⟨rfl, fun _ s h => ⟨s, h, rfl, .inl rfl, fun _ => rfl⟩, fun _ s h => ⟨s, h⟩⟩
theorem Mono.trans {ρ ρ1 ρ2 : Rho} (a : Mono ρ ρ1) (b : Mono ρ1 ρ2) : Mono ρ ρ2 where
  len := b.len.trans a.len
  bk := fun i s2 h => by
    obtain ⟨s1, h1, p1, f1, d1⟩ := b.bk i s2 h
    obtain ⟨s, h0, p0, f0, d0⟩ := a.bk i s1 h1
    refine ⟨s, h0, p1.trans p0, ?_, fun n => ?_⟩
    · rcases f1 with f1 | ⟨f1, n1⟩
      · rcases f0 with f0 | ⟨f0, n0⟩
        · exact .inl (f1.trans f0)
        · exact .inr ⟨f1.trans f0, n0⟩
      · refine .inr ⟨f1, ?_⟩
        rcases f0 with f0 | ⟨f0, n0⟩
        · rw [← f0]; exact n1
        · exact n0
    · have n1 : s1.f ≠ .own := by
        rcases f0 with f0 | ⟨f0, _⟩
        · rw [f0]; exact n
        · rw [f0]; decide
      exact (d1 n1).trans (d0 n)
  fw := fun i s h => let ⟨s1, h1⟩ := a.fw i s h; b.fw i s1 h1
section
variable {ρ ρ' : Rho} {σ : L2.St} {a : Addr}
theorem Mono.own (m : Mono ρ ρ') (h : Own ρ' σ a) : Own ρ σ a := by
  obtain ⟨i, s', h1, h2, h3⟩ := h
  obtain ⟨s, e, _, f, _⟩ := m.bk i s' h1
  refine ⟨i, s, e, ?_, h3⟩
  rcases f with f | ⟨f, _⟩
  · rw [← f]; exact h2
  · rw [f] at h2; cases h2
theorem Mono.priv (m : Mono ρ ρ') (h : Priv ρ' σ a) : Priv ρ σ a := by
  obtain ⟨i, s', h1, h2, h3⟩ := h
  obtain ⟨s, e, _, f, _⟩ := m.bk i s' h1
  refine ⟨i, s, e, ?_, h3⟩
  rcases f with f | ⟨f, _⟩
  · rw [← f]; exact h2
  · rw [f] at h2; rcases h2 with z | z <;> cases z
theorem Mono.av {Z : Addr → Prop} (m : Mono ρ ρ') (h : Av Z ρ σ a) : Av Z ρ' σ a := ⟨h.1, fun z => h.2 (m.priv z)⟩
end
section
variable {C : RC} {Z : Addr → Prop} {ρ ρ' : Rho} {σ : L2.St} {H H1 H' : Hp} {d : D} {v : V} {a : Addr}
theorem Fr.trans (m : Mono ρ ρ') (x : Fr ρ σ H H1) (y : Fr ρ' σ H1 H') : Fr ρ σ H H' := ⟨fun a o h n w => y.kp a o (x.kp a o h n w) n fun z => w (m.own z), fun a o h => let ⟨o1, h1⟩ := x.dom a o h; y.dom a o1 h1⟩

theorem Top.there {P : Addr → Prop} {d : D} {a : Addr} (h : Top C.K P H d a) : ∃ o, H a = some o ∧ ((∃ vs, o = .lst vs) ∨ (∃ kls, o = .dK kls) ∨ ∃ kls, o = .dT kls) := by
  cases d <;> simp only [Top] at h
  · obtain ⟨vs, e, _⟩ := h
    exact ⟨_, e, .inl ⟨_, rfl⟩⟩
  · obtain ⟨vs, u, e, dq, _⟩ := h
    refine ⟨u, e, .inr ?_⟩
    rcases dq with ⟨ks, _, _, rfl⟩ | ⟨ks, _, _, rfl⟩
    · exact .inl ⟨_, rfl⟩
    · exact .inr ⟨_, rfl⟩
theorem Rel.ownThere (r : Rel C Z ρ σ H) (h : Own ρ σ a) : ∃ o, H a = some o ∧ ((∃ vs, o = .lst vs) ∨ (∃ kls, o = .dK kls) ∨ ∃ kls, o = .dT kls) := by
  obtain ⟨i, s, h1, h2, h3⟩ := h
  obtain ⟨b, e, _, t⟩ := r.own i s h1 h2
  rw [h3] at e
  cases e
  exact t.there
/-- what values lean on stays -/
theorem Rel.keepP (r : Rel C Z ρ σ H) (f : Fr ρ σ H H') {P : Addr → Prop} (hp : ∀ a, P a → ¬ Own ρ σ a) : Keep P H H' := by
  intro a o e q
  rcases q with ⟨p, n⟩ | ⟨vs, rfl⟩ | ⟨u, vs, rfl⟩
  · exact f.kp a o e n (hp a p)
  · refine f.kp a _ e (fun ps z => by cases z) fun w => ?_
    obtain ⟨o', e', q⟩ := r.ownThere w
    rw [e] at e'; cases e'
    rcases q with ⟨_, z⟩ | ⟨_, z⟩ | ⟨_, z⟩ <;> cases z
  · refine f.kp a _ e (fun ps z => by cases z) fun w => ?_
    obtain ⟨o', e', q⟩ := r.ownThere w
    rw [e] at e'; cases e'
    rcases q with ⟨_, z⟩ | ⟨_, z⟩ | ⟨_, z⟩ <;> cases z
theorem Rel.keep (r : Rel C Z ρ σ H) (f : Fr ρ σ H H') : Keep (Av Z ρ σ) H H' := r.keepP f fun _ p w => p.2 w.priv
/-- a value outlasts an expression -/
theorem Rel.rp (r : Rel C Z ρ σ H) (f : Fr ρ σ H H') (m : Mono ρ ρ') (h : Rp C.K (Av Z ρ σ) H d v) : Rp C.K (Av Z ρ' σ) H' d v :=
  Rp.keep (r.keep f) (fun _ _ p => m.av p) d v h
theorem Rel.rpL (r : Rel C Z ρ σ H) (f : Fr ρ σ H H') (m : Mono ρ ρ') {ds : List D} {vs : List V} (h : RpL C.K (Av Z ρ σ) H ds vs) : RpL C.K (Av Z ρ' σ) H' ds vs :=
  RpL.keep (r.keep f) (fun _ _ p => m.av p) ds vs h
theorem Rel.rpK (r : Rel C Z ρ σ H) (f : Fr ρ σ H H') (m : Mono ρ ρ') {ds : List (D × D)} {vs : List V} (h : RpK C.K (Av Z ρ σ) H ds vs) : RpK C.K (Av Z ρ' σ) H' ds vs :=
  RpK.keep (r.keep f) (fun _ _ p => m.av p) ds vs h
theorem Top.keep {P P' : Addr → Prop} (k : Keep P H H') (hp : ∀ a, (∃ o, H a = some o) → P a → P' a) (ha : ∀ o, H a = some o → (∀ ps, o ≠ .tbl ps) → H' a = some o) (h : Top C.K P H d a) : Top C.K P' H' d a := by
  cases d <;> simp only [Top] at h ⊢
  · obtain ⟨vs, e, q⟩ := h
    exact ⟨vs, ha _ e (fun ps z => by cases z), RpL.keep k hp _ _ q⟩
  · obtain ⟨vs, u, e, dq, q⟩ := h
    exact ⟨vs, u, ha _ e dq.notbl.1, dq, RpK.keep k hp _ _ q⟩
theorem TopR.keep {P P' : Addr → Prop} (k : Keep P H H') (hp : ∀ a, (∃ o, H a = some o) → P a → P' a) (ha : ∀ o, H a = some o → (∀ ps, o ≠ .tbl ps) → H' a = some o) (h : TopR C.K P H d a) : TopR C.K P' H' d a := by
  cases d <;> simp only [TopR] at h ⊢
  · obtain ⟨vs, e, q⟩ := h
    exact ⟨vs, Rd.keep e fun o z w => ha o z fun ps q => (by rcases w with rfl | ⟨b, rfl⟩ <;> cases q), RpL.keep k hp _ _ q⟩
  · obtain ⟨vs, u, e, dq, q⟩ := h
    refine ⟨vs, u, Rd.keep e fun o z w => ha o z fun ps q => ?_, dq, RpK.keep k hp _ _ q⟩
    rcases w with rfl | ⟨b, rfl⟩
    · exact dq.notbl.1 ps q
    · exact dq.notbl.2 b ps q
theorem Top.r {P : Addr → Prop} (h : Top C.K P H d a) : TopR C.K P H d a := by
  cases d <;> simp only [Top, TopR] at h ⊢
  · obtain ⟨vs, e, q⟩ := h
    exact ⟨vs, .inl e, q⟩
  · obtain ⟨vs, u, e, q⟩ := h
    exact ⟨vs, u, .inl e, q⟩
/-- fewer addresses are shut out -/
theorem Rel.weak {Z' : Addr → Prop} (r : Rel C Z ρ σ H) (hz : ∀ a, Z' a → Z a) : Rel C Z' ρ σ H := by
  have hp : ∀ a, (∃ o, H a = some o) → Av Z ρ σ a → Av Z' ρ σ a := fun a _ p => ⟨fun z => p.1 (hz a z), p.2⟩
  have k : Keep (Av Z ρ σ) H H := fun _ _ e _ => e
  refine ⟨r.len, r.tab, fun a z => r.zd a (hz a z), fun i s h f => ?_, fun i s h f => ?_, fun i s h f => ?_, fun i s h f => ?_, r.apart⟩
  · obtain ⟨v, e, q⟩ := r.val i s h f
    exact ⟨v, e, Rp.keep k hp _ _ q⟩
  · obtain ⟨a, e, n, q⟩ := r.own i s h f
    exact ⟨a, e, fun z => n (hz a z), Top.keep k hp (fun _ e _ => e) q⟩
  · obtain ⟨a, e, n, q⟩ := r.lent i s h f
    exact ⟨a, e, fun z => n (hz a z), TopR.keep k hp (fun _ e _ => e) q⟩
  · obtain ⟨n, v, e1, e2, q, w⟩ := r.fns i s h f
    exact ⟨n, v, e1, e2, q, fun a e => ⟨(w a e).1, fun z => (w a e).2.1 (hz a z), (w a e).2.2⟩⟩
/-- the heap changes beside the slots -/
theorem Rel.heap (r : Rel C Z ρ σ H) (f : ∀ a o, H a = some o → (∀ ps, o ≠ .tbl ps) → H' a = some o) (ht : ∀ a o, H a = some o → ∃ o', H' a = some o') (tb : Tabs C.T H') : Rel C Z ρ σ H' := by
  have k : Keep (Av Z ρ σ) H H' := r.keep ⟨fun a o e n _ => f a o e n, ht⟩
  refine ⟨r.len, tb, fun a z => let ⟨o, e⟩ := r.zd a z; ht a o e, fun i s h g => ?_, fun i s h g => ?_, fun i s h g => ?_, fun i s h g => ?_, r.apart⟩
  · obtain ⟨v, e, q⟩ := r.val i s h g
    exact ⟨v, e, Rp.keep k (fun _ _ p => p) _ _ q⟩
  · obtain ⟨a, e, n, q⟩ := r.own i s h g
    exact ⟨a, e, n, Top.keep k (fun _ _ p => p) (f a) q⟩
  · obtain ⟨a, e, n, q⟩ := r.lent i s h g
    exact ⟨a, e, n, TopR.keep k (fun _ _ p => p) (f a) q⟩
  · obtain ⟨n, v, e1, e2, q, w⟩ := r.fns i s h g
    exact ⟨n, v, e1, e2, C.st i n v H H' q fun a o e n _ => f a o e n, fun a e => ⟨let ⟨o, z⟩ := (w a e).1; ht a o z, (w a e).2⟩⟩
/-- what is new to the slots is not theirs -/
theorem Rel.ownSome (r : Rel C Z ρ σ H) (h : Own ρ σ a) : H a ≠ none := by
  obtain ⟨o, e, _⟩ := r.ownThere h
  rw [e]; exact fun z => nomatch z
/-- the addresses Z and a -/
def zAnd (Z : Addr → Prop) (a : Addr) : Addr → Prop := fun b => Z b ∨ b = a
end
end VS
end

section
set_option autoImplicit false
set_option linter.all false
/-! VJud: judgements: an expression does what the evaluator says. -/
namespace VS
open PySem PySem.Spec PyProof.Rows L2

def ZExt (Z Z' : Addr → Prop) (H : Hp) : Prop := (∀ a, Z a → Z' a) ∧ ∀ a, Z' a → Z a ∨ H a = none
theorem ZExt.refl (Z : Addr → Prop) (H : Hp) : ZExt Z Z H := ⟨fun _ z => z, fun _ z => .inl z⟩
theorem ZExt.trans {Z Z1 Z2 : Addr → Prop} {H H1 : Hp} (x : ZExt Z Z1 H) (y : ZExt Z1 Z2 H1) (d : ∀ a o, H a = some o → ∃ o', H1 a = some o') : ZExt Z Z2 H := by
  refine ⟨fun a z => y.1 a (x.1 a z), fun a z => ?_⟩
  rcases y.2 a z with z | z
  · exact x.2 a z
  · refine .inr ?_
    cases e : H a with
    | none => rfl
    | some o =>
      obtain ⟨o', e'⟩ := d a o e
      rw [z] at e'; cases e'
theorem ZExt.and (Z : Addr → Prop) {H : Hp} {a : Addr} (h : H a = none) : ZExt Z (zAnd Z a) H :=
  ⟨fun _ z => .inl z, fun b z => z.elim .inl fun e => .inr (by rw [e]; exact h)⟩

section
variable (C : RC)
/-- behind an expression: its value -/
def Res (Z : Addr → Prop) (H : Hp) (ρ' : Rho) (σ : L2.St) (o : Ow) (d : D) (v : V) (H' : Hp) : Prop := match o with
  | .val => Rel C Z ρ' σ H' ∧ Rp C.K (Av Z ρ' σ) H' d v
  | .own => ∃ a, v = .ref a ∧ H a = none ∧ Rel C (zAnd Z a) ρ' σ H' ∧ Top C.K (Av (zAnd Z a) ρ' σ) H' d a
  | .one => ∃ a b d1, v = .ref a ∧ d = .lst [d1] ∧ H a = none ∧ H b = none ∧ a ≠ b ∧ H' a = some (.lst [.ref b]) ∧ Rel C (zAnd (zAnd Z a) b) ρ' σ H' ∧ Top C.K (Av (zAnd (zAnd Z a) b) ρ' σ) H' d1 b
structure EPost (Z : Addr → Prop) (ρ : Rho) (σ : L2.St) (H : Hp) (ρ' : Rho) (o : Ow) (d : D) (v : V) (H' : Hp) : Prop where
  fr : Fr ρ σ H H'
  mono : Mono ρ ρ'
  res : Res C Z H ρ' σ o d v H'
structure XPost (Z : Addr → Prop) (ρ : Rho) (σ : L2.St) (H : Hp) (ρ' : Rho) (H' : Hp) : Prop where
  fr : Fr ρ σ H H'
  mono : Mono ρ ρ'
  rel : Rel C Z ρ' σ H'
/-- behind an expression of which the post is told by G -/
def tX {α : Type} (W : WX) (ev : Rho → R α) (G : (Addr → Prop) → Rho → L2.St → Hp → Rho → α → V → Hp → Prop) : TE := fun σ H Q => ∃ Z ρ, Rel C Z ρ σ H ∧ match ev ρ with
  | .ok v ρ' => ∀ x H', G Z ρ σ H ρ' v x H' → Q x H'
  | .ex c ρ' => ∀ H', XPost C Z ρ σ H ρ' H' → W (C.cv c) none σ H'
  | .no => False
def GE (Z : Addr → Prop) (ρ : Rho) (σ : L2.St) (H : Hp) (ρ' : Rho) (v : Ow × D) (x : V) (H' : Hp) : Prop := EPost C Z ρ σ H ρ' v.1 v.2 x H'
/-- THE JUDGEMENT -/
def SE (X : Cx) (e : Expr) (ev : Rho → R (Ow × D)) : Prop := ∀ W, Takes X W → PE X e (tX C W ev (GE C))

/-- an operand bears .. -/
def OpdR (Z : Addr → Prop) (ρ : Rho) (σ : L2.St) (H : Hp) (o : Opd) (x : V) : Prop := match o with
  | .slot i => σ[i]? = some (some x) ∧ ∃ s, getS ρ i = some s
  | .tmp d => Rp C.K (Av Z ρ σ) H d x ∨ ∃ a, x = .ref a ∧ Z a ∧ TopR C.K (Av Z ρ σ) H d a
structure OPost (Z : Addr → Prop) (ρ : Rho) (σ : L2.St) (H : Hp) (ρ' : Rho) (o : Opd) (x : V) (H' : Hp) (Z' : Addr → Prop) : Prop where
  fr : Fr ρ σ H H'
  mono : Mono ρ ρ'
  ext : ZExt Z Z' H
  rel : Rel C Z' ρ' σ H'
  opd : OpdR C Z' ρ' σ H' o x
def GO (Z : Addr → Prop) (ρ : Rho) (σ : L2.St) (H : Hp) (ρ' : Rho) (o : Opd) (x : V) (H' : Hp) : Prop := ∃ Z', OPost C Z ρ σ H ρ' o x H' Z'
def SO (X : Cx) (e : Expr) (ev : Rho → R Opd) : Prop := ∀ W, Takes X W → PE X e (tX C W ev (GO C))
/-- .. operands -/
def OpdsR (Z : Addr → Prop) (ρ : Rho) (σ : L2.St) (H : Hp) : List Opd → List V → Prop
  | [], xs => xs = []
  | o :: os, xs => ∃ x xs', xs = x :: xs' ∧ OpdR C Z ρ σ H o x ∧ OpdsR Z ρ σ H os xs'
structure LPost (Z : Addr → Prop) (ρ : Rho) (σ : L2.St) (H : Hp) (ρ' : Rho) (os : List Opd) (xs : List V) (H' : Hp) (Z' : Addr → Prop) : Prop where
  fr : Fr ρ σ H H'
  mono : Mono ρ ρ'
  ext : ZExt Z Z' H
  rel : Rel C Z' ρ' σ H'
  opds : OpdsR C Z' ρ' σ H' os xs
def tL {α : Type} (W : WX) (ev : Rho → R α) (G : (Addr → Prop) → Rho → L2.St → Hp → Rho → α → List V → Hp → Prop) : TA := fun σ H Q => ∃ Z ρ, Rel C Z ρ σ H ∧ match ev ρ with
  | .ok v ρ' => ∀ xs H', G Z ρ σ H ρ' v xs H' → Q xs H'
  | .ex c ρ' => ∀ H', XPost C Z ρ σ H ρ' H' → W (C.cv c) none σ H'
  | .no => False
def GL (Z : Addr → Prop) (ρ : Rho) (σ : L2.St) (H : Hp) (ρ' : Rho) (os : List Opd) (xs : List V) (H' : Hp) : Prop := ∃ Z', LPost C Z ρ σ H ρ' os xs H' Z'
def ST (X : Cx) (es : List Expr) (ev : Rho → R (List Opd)) : Prop := ∀ W, Takes X W → PA X es (tL C W ev (GL C))
/-- values that stay -/
structure VPost (Z : Addr → Prop) (ρ : Rho) (σ : L2.St) (H : Hp) (ρ' : Rho) (ds : List D) (xs : List V) (H' : Hp) : Prop where
  fr : Fr ρ σ H H'
  mono : Mono ρ ρ'
  rel : Rel C Z ρ' σ H'
  rp : RpL C.K (Av Z ρ' σ) H' ds xs
def SL (X : Cx) (es : List Expr) (ev : Rho → R (List D)) : Prop := ∀ W, Takes X W → PA X es (tL C W ev (VPost C))
end

theorem PE.imp {X : Cx} {e : Expr} {t t' : TE} (h : PE X e t) (i : ∀ σ H Q, t' σ H Q → t σ H Q) : PE X e t' := ⟨fun pins s σ H Q I q => h.run pins s σ H Q I (i σ H Q q)⟩
theorem PA.imp {X : Cx} {e : List Expr} {t t' : TA} (h : PA X e t) (i : ∀ σ H Q, t' σ H Q → t σ H Q) : PA X e t' := ⟨fun pos pins s σ H Q I q => h.run pos pins s σ H Q I (i σ H Q q)⟩

section
variable {C : RC} {Z Z' : Addr → Prop} {ρ ρ' : Rho} {σ : L2.St} {H H' : Hp} {d : D} {v : V} {a : Addr}
theorem Rel.noneZ (r : Rel C Z ρ σ H) (h : H a = none) : ¬ Z a := fun z => by
  obtain ⟨o, e⟩ := r.zd a z
  rw [h] at e; cases e
theorem TopR.some {P : Addr → Prop} (h : TopR C.K P H d a) : ∃ o, H a = some o := by
  cases d <;> simp only [TopR] at h
  · obtain ⟨vs, e, _⟩ := h
    exact rd_some e
  · obtain ⟨vs, u, e, _⟩ := h
    exact rd_some e
theorem Rel.privThere (r : Rel C Z ρ σ H) (h : Priv ρ σ a) : ∃ o, H a = some o := by
  obtain ⟨i, s, h1, h2, h3⟩ := h
  rcases h2 with h2 | h2
  · obtain ⟨b, e, _, t⟩ := r.own i s h1 h2
    rw [h3] at e; cases e
    exact TopR.some t.r
  · obtain ⟨b, e, _, t⟩ := r.lent i s h1 h2
    rw [h3] at e; cases e
    exact TopR.some t
theorem Rel.noneAv (r : Rel C Z ρ σ H) (h : H a = none) : Av Z ρ σ a := ⟨r.noneZ h, fun p => by
  obtain ⟨o, e⟩ := r.privThere p
  rw [h] at e; cases e⟩
theorem Rel.privZ (r : Rel C Z ρ σ H) (h : Priv ρ σ a) : ¬ Z a := by
  obtain ⟨i, s, h1, h2, h3⟩ := h
  rcases h2 with h2 | h2
  · obtain ⟨b, e, n, _⟩ := r.own i s h1 h2
    rw [h3] at e; cases e
    exact n
  · obtain ⟨b, e, n, _⟩ := r.lent i s h1 h2
    rw [h3] at e; cases e
    exact n
theorem getS_some {ρ : Rho} {i : Nat} {s : Slot} (h : getS ρ i = some s) : ρ[i]? = some (some s) ∧ s.f ≠ .fns := by
  unfold getS at h
  split at h
  · cases h
  · rename_i s' hn e
    cases h
    refine ⟨e, fun z => ?_⟩
    obtain ⟨f, p, d⟩ := s
    have z' : f = .fns := z
    subst z'
    exact hn p d rfl
  · cases h
theorem getS_of {ρ : Rho} {i : Nat} {s : Slot} (h : ρ[i]? = some (some s)) (n : s.f ≠ .fns) : getS ρ i = some s := by
  unfold getS
  rw [h]
  obtain ⟨f, p, d⟩ := s
  cases f <;> first | rfl | exact absurd rfl n
/-- a slot that is looked at -/
theorem Rel.look (r : Rel C Z ρ σ H) {i : Nat} {s : Slot} (h : getS ρ i = some s) : ∃ x, σ[i]? = some (some x) ∧ RpT C.K (Av Z ρ σ) H s.d x := by
  obtain ⟨e, n⟩ := getS_some h
  cases f : s.f with
  | own =>
    obtain ⟨a, e1, _, t⟩ := r.own i s e f
    exact ⟨_, e1, .inr ⟨a, rfl, t.r⟩⟩
  | lent =>
    obtain ⟨a, e1, _, t⟩ := r.lent i s e f
    exact ⟨_, e1, .inr ⟨a, rfl, t⟩⟩
  | val =>
    obtain ⟨v, e1, t⟩ := r.val i s e f
    exact ⟨v, e1, .inl t⟩
  | fns => exact absurd f n
theorem RpT.weak {P P' : Addr → Prop} (hp : ∀ a, P a → P' a) (h : RpT C.K P H d v) : RpT C.K P' H d v := by
  have k : Keep P H H := fun _ _ e _ => e
  rcases h with h | ⟨a, e, t⟩
  · exact .inl (Rp.keep k (fun a _ => hp a) _ _ h)
  · exact .inr ⟨a, e, TopR.keep k (fun a _ => hp a) (fun _ e _ => e) t⟩
theorem Av.weak (hz : ∀ a, Z a → Z' a) : ∀ a, Av Z' ρ σ a → Av Z ρ σ a := fun a p => ⟨fun z => p.1 (hz a z), p.2⟩
/-- an operand, used -/
theorem Rel.use (r : Rel C Z' ρ' σ H') (hz : ∀ a, Z a → Z' a) {o : Opd} {x : V} (q : OpdR C Z' ρ' σ H' o x) (e : res ρ' o = some d) : RpT C.K (Av Z ρ' σ) H' d x := by
  cases o with
  | slot i =>
    simp only [res] at e
    obtain ⟨q1, s, q2⟩ := q
    rw [q2] at e
    cases e
    obtain ⟨y, e1, t⟩ := r.look q2
    rw [q1] at e1
    cases e1
    exact t.weak (Av.weak hz)
  | tmp d' =>
    simp only [res] at e
    cases e
    rcases q with q | ⟨a, e, _, t⟩
    · exact RpT.weak (Av.weak hz) (.inl q)
    · exact RpT.weak (Av.weak hz) (.inr ⟨a, e, t⟩)
/-- an operand outlasts what follows -/
theorem OpdR.stay {Z1 Z2 : Addr → Prop} {ρ1 ρ2 : Rho} {H1 H2 : Hp} {o : Opd} {x : V} (r : Rel C Z1 ρ1 σ H1) (f : Fr ρ1 σ H1 H2) (m : Mono ρ1 ρ2) (z : ZExt Z1 Z2 H1) (q : OpdR C Z1 ρ1 σ H1 o x) : OpdR C Z2 ρ2 σ H2 o x := by
  have hp : ∀ a, (∃ o, H1 a = some o) → Av Z1 ρ1 σ a → Av Z2 ρ2 σ a := fun a ⟨o, e⟩ p => by
    refine ⟨fun w => ?_, fun w => p.2 (m.priv w)⟩
    rcases z.2 a w with w | w
    · exact p.1 w
    · rw [e] at w; cases w
  cases o with
  | slot i =>
    obtain ⟨q1, s, q2⟩ := q
    obtain ⟨e, n⟩ := getS_some q2
    obtain ⟨s', e'⟩ := m.fw i s e
    refine ⟨q1, s', getS_of e' fun w => ?_⟩
    obtain ⟨s0, e0, _, f0, _⟩ := m.bk i s' e'
    rw [e] at e0; cases e0
    rcases f0 with f0 | ⟨f0, _⟩
    · exact n (f0.symm.trans w)
    · rw [f0] at w; cases w
  | tmp d =>
    rcases q with q | ⟨a, e, za, t⟩
    · exact .inl (Rp.keep (r.keep f) hp _ _ q)
    · refine .inr ⟨a, e, z.1 a za, TopR.keep (r.keep f) hp (fun o e n => f.kp a o e n fun w => r.privZ w.priv za) t⟩

/-! ### results of what changes nothing that stood -/
def Grow (H H' : Hp) : Prop := ∀ a o, H a = some o → H' a = some o
theorem Grow.refl (H : Hp) : Grow H H := fun _ _ h => h
theorem Grow.new {H : Hp} {p : Addr} {o : HO} (h : H p = none) : Grow H (upd H p o) := fun a u e => by rw [upd_ne (ne_of_none e h)]; exact e
theorem Grow.trans {H H1 H2 : Hp} (x : Grow H H1) (y : Grow H1 H2) : Grow H H2 := fun a o e => y a o (x a o e)
/-- a value made of values of P and of new things -/
def New (K : PySem.W.Frag) (P : Addr → Prop) (H H' : Hp) (o : Ow) (d : D) (v : V) : Prop := match o with
  | .val => Rp K (fun a => P a ∨ H a = none) H' d v
  | .own => ∃ a, v = .ref a ∧ H a = none ∧ Top K (fun b => (P b ∨ H b = none) ∧ b ≠ a) H' d a
  | .one => False
theorem Rel.grow (r : Rel C Z ρ σ H) (g : Grow H H') : Rel C Z ρ σ H' := r.heap (fun a o e _ => g a o e) (fun a o e => ⟨o, g a o e⟩) (r.tab.ext g)
theorem Fr.grow (g : Grow H H') : Fr ρ σ H H' := ⟨fun a o e _ _ => g a o e, fun a o e => ⟨o, g a o e⟩⟩
theorem EPost.of_new {H1 H2 : Hp} {o : Ow} (f : Fr ρ σ H H1) (m : Mono ρ ρ') (r : Rel C Z ρ' σ H1) (g : Grow H1 H2) (n : New C.K (Av Z ρ' σ) H1 H2 o d v) : EPost C Z ρ σ H ρ' o d v H2 := by
  refine ⟨f.trans m (.grow g), m, ?_⟩
  have none0 : ∀ {b}, H1 b = none → H b = none := fun {b} e => by
    cases q : H b with
    | none => rfl
    | some u =>
      obtain ⟨o', q'⟩ := f.dom b u q
      rw [e] at q'; cases q'
  have k : ∀ P : Addr → Prop, Keep P H2 H2 := fun _ _ _ e _ => e
  cases o with
  | val =>
    refine ⟨r.grow g, Rp.keep (k _) (fun a _ p => ?_) _ _ n⟩
    rcases p with p | p
    · exact p
    · exact r.noneAv p
  | own =>
    obtain ⟨a, e, na, t⟩ := n
    have av : ∀ b, (Av Z ρ' σ b ∨ H1 b = none) ∧ b ≠ a → Av (zAnd Z a) ρ' σ b := fun b p => by
      have q : Av Z ρ' σ b := p.1.elim id fun e => r.noneAv e
      exact ⟨fun z => z.elim q.1 p.2, q.2⟩
    obtain ⟨oa, ea, _⟩ := t.there
    refine ⟨a, e, none0 na, ?_, Top.keep (k _) (fun b _ => av b) (fun _ e _ => e) t⟩
    -- the new one is shut out
    have r2 := r.grow g
    have hav : ∀ b, (∃ o, H1 b = some o) → Av Z ρ' σ b → Av (zAnd Z a) ρ' σ b := fun b ⟨o, e⟩ p => ⟨fun z => z.elim p.1 fun z => (by rw [z, na] at e; cases e), p.2⟩
    have kk : Keep (Av Z ρ' σ) H1 H2 := r.keep (.grow g)
    have nn : ∀ b, (∃ o, H1 b = some o) → ¬ Z b → ¬ zAnd Z a b := fun b ⟨o, e⟩ n z => z.elim n fun z => by rw [z, na] at e; cases e
    refine ⟨r.len, r2.tab, fun b z => z.elim (r2.zd b) fun z => ⟨oa, by rw [z]; exact ea⟩, fun i s h g' => ?_, fun i s h g' => ?_, fun i s h g' => ?_, fun i s h g' => ?_, r.apart⟩
    · obtain ⟨x, e1, q⟩ := r.val i s h g'
      exact ⟨x, e1, Rp.keep kk hav _ _ q⟩
    · obtain ⟨b, e1, n1, q⟩ := r.own i s h g'
      exact ⟨b, e1, nn b (TopR.some q.r) n1, Top.keep kk hav (fun o e _ => g b o e) q⟩
    · obtain ⟨b, e1, n1, q⟩ := r.lent i s h g'
      exact ⟨b, e1, nn b (TopR.some q) n1, TopR.keep kk hav (fun o e _ => g b o e) q⟩
    · obtain ⟨n, x, e1, e2, q, w⟩ := r2.fns i s h g'
      obtain ⟨_, _, _, e3, _, w1⟩ := r.fns i s h g'
      rw [e2] at e3; cases e3
      exact ⟨n, x, e1, e2, q, fun b e => ⟨(w b e).1, nn b (w1 b e).1 (w1 b e).2.1, (w b e).2.2⟩⟩
  | one => exact n.elim
end
end VS
end

section
set_option autoImplicit false
set_option linter.all false
/-! VOps: operands in a row; operators. -/
namespace VS
open PySem PySem.Spec PyProof.Rows L2

section
variable {C : RC} {X : Cx} {W : WX} {α : Type}
/-- what is left to be shown behind operands: the evaluator goes on with m at ρ' -/
def Left (C : RC) (W : WX) (G : (Addr → Prop) → Rho → L2.St → Hp → Rho → α → V → Hp → Prop) (Z : Addr → Prop) (ρ : Rho) (σ : L2.St) (H : Hp) (m : R α) (Q : VK) : Prop := match m with
  | .ok v ρ' => ∀ x H', G Z ρ σ H ρ' v x H' → Q x H'
  | .ex c ρ' => ∀ H', XPost C Z ρ σ H ρ' H' → W (C.cv c) none σ H'
  | .no => False
theorem tX_left {ev : Rho → R α} {G} {σ : L2.St} {H : Hp} {Q : VK} : tX C W ev G σ H Q ↔ ∃ Z ρ, Rel C Z ρ σ H ∧ Left C W G Z ρ σ H (ev ρ) Q := Iff.rfl

/-- the state behind some operands -/
structure Mid (C : RC) (Z : Addr → Prop) (ρ : Rho) (σ : L2.St) (H : Hp) (Z' : Addr → Prop) (ρ' : Rho) (H' : Hp) : Prop where
  fr : Fr ρ σ H H'
  mono : Mono ρ ρ'
  ext : ZExt Z Z' H
  rel : Rel C Z' ρ' σ H'
theorem Mid.start {Z : Addr → Prop} {ρ : Rho} {σ : L2.St} {H : Hp} (r : Rel C Z ρ σ H) : Mid C Z ρ σ H Z ρ H := ⟨Fr.refl _ _ _, Mono.refl _, ZExt.refl _ _, r⟩
theorem OPost.mid {Z Z' : Addr → Prop} {ρ ρ' : Rho} {σ : L2.St} {H H' : Hp} {o : Opd} {x : V} (p : OPost C Z ρ σ H ρ' o x H' Z') : Mid C Z ρ σ H Z' ρ' H' := ⟨p.fr, p.mono, p.ext, p.rel⟩
theorem Mid.trans {Z Z1 Z2 : Addr → Prop} {ρ ρ1 ρ2 : Rho} {σ : L2.St} {H H1 H2 : Hp} (a : Mid C Z ρ σ H Z1 ρ1 H1) (b : Mid C Z1 ρ1 σ H1 Z2 ρ2 H2) : Mid C Z ρ σ H Z2 ρ2 H2 :=
  ⟨a.fr.trans a.mono b.fr, a.mono.trans b.mono, a.ext.trans b.ext a.fr.dom, b.rel⟩
theorem Mid.stay {Z1 Z2 : Addr → Prop} {ρ1 ρ2 : Rho} {σ : L2.St} {H1 H2 : Hp} (r : Rel C Z1 ρ1 σ H1) (b : Mid C Z1 ρ1 σ H1 Z2 ρ2 H2) {o : Opd} {x : V} (q : OpdR C Z1 ρ1 σ H1 o x) : OpdR C Z2 ρ2 σ H2 o x :=
  OpdR.stay r b.fr b.mono b.ext q
/-- an error behind the operands -/
theorem Mid.x {Z Z1 : Addr → Prop} {ρ ρ1 ρ2 : Rho} {σ : L2.St} {H H1 H2 : Hp} (a : Mid C Z ρ σ H Z1 ρ1 H1) (b : XPost C Z1 ρ1 σ H1 ρ2 H2) : XPost C Z ρ σ H ρ2 H2 :=
  ⟨a.fr.trans a.mono b.fr, a.mono.trans b.mono, b.rel.weak a.ext.1⟩
/-- one more operand -/
theorem Left.opd {G : (Addr → Prop) → Rho → L2.St → Hp → Rho → α → V → Hp → Prop} {Z Z1 : Addr → Prop} {ρ ρ1 : Rho} {σ : L2.St} {H H1 : Hp} {Q : VK} {ev : Rho → R Opd} {f : Opd → Rho → R α} (a : Mid C Z ρ σ H Z1 ρ1 H1) (h : Left C W G Z ρ σ H ((ev ρ1).bind f) Q) {R' : VK}
    (k : ∀ o ρ2 Z2 x H2, Mid C Z ρ σ H Z2 ρ2 H2 → Mid C Z1 ρ1 σ H1 Z2 ρ2 H2 → OpdR C Z2 ρ2 σ H2 o x → Left C W G Z ρ σ H (f o ρ2) Q → R' x H2) : tX C W ev (GO C) σ H1 R' := by
  refine ⟨Z1, ρ1, a.rel, ?_⟩
  cases e : ev ρ1 with
  | no => rw [e] at h; exact h
  | ex c ρ2 =>
    rw [e] at h
    intro H2 p
    exact h H2 (a.x p)
  | ok o ρ2 =>
    rw [e] at h
    rintro x H2 ⟨Z2, p⟩
    exact k o ρ2 Z2 x H2 (a.trans p.mid) p.mid p.opd h

/-! ### operators by values -/
/-- a two-place thing of values, by what it gives of plain data -/
def Op2 (K : PySem.W.Frag) (r : R2) (g : D → D → Option (Ow × D)) : Prop := ∀ (P : Addr → Prop) (H : Hp) (x y : V) (d1 d2 : D) (o : Ow) (d : D) (Q : VK), RpT K P H d1 x → RpT K P H d2 y → g d1 d2 = some (o, d) →
  (∀ v H', Grow H H' → New K P H H' o d v → Q v H') → r x y H Q
def Op1 (K : PySem.W.Frag) (r : V → Hp → VK → Prop) (g : D → Option (Ow × D)) : Prop := ∀ (P : Addr → Prop) (H : Hp) (x : V) (d1 : D) (o : Ow) (d : D) (Q : VK), RpT K P H d1 x → g d1 = some (o, d) →
  (∀ v H', Grow H H' → New K P H H' o d v → Q v H') → r x H Q
theorem Mid.done {Z Z' : Addr → Prop} {ρ ρ' : Rho} {σ : L2.St} {H H' H2 : Hp} {o : Ow} {d : D} {v : V} (a : Mid C Z ρ σ H Z' ρ' H') (g : Grow H' H2) (n : New C.K (Av Z ρ' σ) H' H2 o d v) : EPost C Z ρ σ H ρ' o d v H2 :=
  EPost.of_new a.fr a.mono (a.rel.weak a.ext.1) g n
theorem Left.op2 {Z Z' : Addr → Prop} {ρ ρ' : Rho} {σ : L2.St} {H H' : Hp} {Q : VK} {x y : V} {o1 o2 : Opd} {r : R2} {g : D → D → Option (Ow × D)} (hr : Op2 C.K r g) (a : Mid C Z ρ σ H Z' ρ' H') (q1 : OpdR C Z' ρ' σ H' o1 x) (q2 : OpdR C Z' ρ' σ H' o2 y)
    (h : Left C W (GE C) Z ρ σ H (op2 o1 o2 g ρ') Q) : r x y H' Q := by
  unfold VS.op2 at h
  cases e1 : res ρ' o1 with
  | none => rw [e1] at h; exact h.elim
  | some d1 =>
    cases e2 : res ρ' o2 with
    | none => rw [e1, e2] at h; exact h.elim
    | some d2 =>
      rw [e1, e2] at h
      dsimp only at h
      cases e3 : g d1 d2 with
      | none => rw [e3] at h; exact h.elim
      | some v =>
        rw [e3] at h
        obtain ⟨o, d⟩ := v
        exact hr _ H' x y d1 d2 o d Q (a.rel.use a.ext.1 q1 e1) (a.rel.use a.ext.1 q2 e2) e3 fun v H2 gr n => h v H2 (a.done gr n)
theorem Left.op1 {Z Z' : Addr → Prop} {ρ ρ' : Rho} {σ : L2.St} {H H' : Hp} {Q : VK} {x : V} {o1 : Opd} {r : V → Hp → VK → Prop} {g : D → Option (Ow × D)} (hr : Op1 C.K r g) (a : Mid C Z ρ σ H Z' ρ' H') (q1 : OpdR C Z' ρ' σ H' o1 x)
    (h : Left C W (GE C) Z ρ σ H (op1 o1 g ρ') Q) : r x H' Q := by
  unfold VS.op1 at h
  cases e1 : res ρ' o1 with
  | none => rw [e1] at h; exact h.elim
  | some d1 =>
    rw [e1] at h
    dsimp only at h
    cases e3 : g d1 with
    | none => rw [e3] at h; exact h.elim
    | some v =>
      rw [e3] at h
      obtain ⟨o, d⟩ := v
      exact hr _ H' x d1 o d Q (a.rel.use a.ext.1 q1 e1) e3 fun v H2 gr n => h v H2 (a.done gr n)
/-- a op b -/
theorem se_bin {a b : Expr} {pos : Pos} {op : Operator} {r : R2} {g : D → D → Option (Ow × D)} {eva evb : Rho → R Opd} (ho : OpR X (binaryOp op) r) (hr : Op2 C.K r g) (sa : SO C X a eva) (sb : SO C X b evb) :
    SE C X (.BinOp a op b pos) (fun r => (eva r).bind fun x r1 => (evb r1).bind fun y r2 => op2 x y g r2) := by
  intro W tk
  refine PE.imp (pe_op ho (sa W tk) (sb W tk)) ?_
  rintro σ H Q ⟨Z, ρ, r0, h⟩
  refine Left.opd (W := W) (G := GE C) (Z := Z) (ρ := ρ) (H := H) (Q := Q) (f := fun x r1 => (evb r1).bind fun y r2 => op2 x y g r2) (.start r0) h fun o1 ρ1 Z1 x H1 a1 b1 q1 h1 => ?_
  refine Left.opd (f := fun y r2 => op2 o1 y g r2) a1 h1 fun o2 ρ2 Z2 y H2 a2 b2 q2 h2 => ?_
  exact Left.op2 hr a2 (b2.stay a1.rel q1) q2 h2
/-- a comparison -/
theorem se_cmp {a b : Expr} {pos : Pos} {op : CmpOp} {r : R2} {g : D → D → Option (Ow × D)} {eva evb : Rho → R Opd} (ho : OpR X (compareOp op) r) (hm : behindInMarks op b = false) (hr : Op2 C.K r g) (sa : SO C X a eva) (sb : SO C X b evb) :
    SE C X (.Compare a [op] [b] pos) (fun r => (eva r).bind fun x r1 => (evb r1).bind fun y r2 => op2 x y g r2) := by
  intro W tk
  refine PE.imp (pe_cmpR ho (sa W tk) (sb W tk) hm) ?_
  rintro σ H Q ⟨Z, ρ, r0, h⟩
  refine Left.opd (W := W) (G := GE C) (Z := Z) (ρ := ρ) (H := H) (Q := Q) (f := fun x r1 => (evb r1).bind fun y r2 => op2 x y g r2) (.start r0) h fun o1 ρ1 Z1 x H1 a1 b1 q1 h1 => ?_
  refine Left.opd (f := fun y r2 => op2 o1 y g r2) a1 h1 fun o2 ρ2 Z2 y H2 a2 b2 q2 h2 => ?_
  exact Left.op2 hr a2 (b2.stay a1.rel q1) q2 h2
/-- a one-place operator -/
theorem se_un {a : Expr} {pos : Pos} {op : UnaryOp} {r : V → Hp → VK → Prop} {g : D → Option (Ow × D)} {eva : Rho → R Opd} (ho : UnR X (unaryOp op) r) (hr : Op1 C.K r g) (sa : SO C X a eva) :
    SE C X (.UnaryOp op a pos) (fun r => (eva r).bind fun x r1 => op1 x g r1) := by
  intro W tk
  refine PE.imp (pe_un ho (sa W tk)) ?_
  rintro σ H Q ⟨Z, ρ, r0, h⟩
  refine Left.opd (W := W) (G := GE C) (Z := Z) (ρ := ρ) (H := H) (Q := Q) (f := fun x r1 => op1 x g r1) (.start r0) h fun o1 ρ1 Z1 x H1 a1 b1 q1 h1 => ?_
  exact Left.op1 hr a1 q1 h1
end
end VS
end

section
set_option autoImplicit false
set_option linter.all false
/-! VBin: + - * // % ** of plain data. -/
namespace VS
open PySem PySem.Spec PyProof.Rows L2

section
variable {K : PySem.W.Frag} {P : Addr → Prop} {H H' : Hp} {x : V}
/-! ### what an operand is -/
theorem RpT.int {i : Int} (h : RpT K P H (.int i) x) : x = .int i := by
  rcases h with h | ⟨a, _, t⟩
  · simpa only [Rp] using h
  · exact t.elim
theorem RpT.bl {i : Bool} (h : RpT K P H (.bl i) x) : x = .bl i := by
  rcases h with h | ⟨a, _, t⟩
  · simpa only [Rp] using h
  · exact t.elim
theorem RpT.non (h : RpT K P H .non x) : x = .non := by
  rcases h with h | ⟨a, _, t⟩
  · simpa only [Rp] using h
  · exact t.elim
def tx (s : List Nat) : PySem.Str := ⟨s.toArray⟩
theorem tx_length (s : List Nat) : (tx s).length = s.length := List.size_toArray
theorem tx_append (s t : List Nat) : tx s ++ tx t = tx (s ++ t) := by
  show PySem.Str.mk (s.toArray ++ t.toArray) = _
  rw [List.append_toArray]; rfl
theorem RpT.str {s : List Nat} (h : RpT K P H (.str s) x) : x = .str (tx s) := by
  rcases h with h | ⟨a, _, t⟩
  · simp only [Rp] at h; exact h
  · exact t.elim
theorem RpT.tup {ds : List D} (h : RpT K P H (.tup ds) x) : ∃ a vs, x = .ref a ∧ SqT K H a vs ∧ RpL K P H ds vs := by
  rcases h with h | ⟨a, _, t⟩
  · simpa only [Rp] using h
  · exact t.elim
theorem RpT.lst {ds : List D} (h : RpT K P H (.lst ds) x) : ∃ a vs, x = .ref a ∧ Rd H a (.lst vs) ∧ RpL K P H ds vs := by
  rcases h with h | ⟨a, e, t⟩
  · simp only [Rp] at h
    obtain ⟨a, vs, e, _, r, q⟩ := h
    exact ⟨a, vs, e, r, q⟩
  · obtain ⟨vs, r, q⟩ := t
    exact ⟨a, vs, e, r, q⟩
theorem RpT.dct {kvs : List (D × D)} (h : RpT K P H (.dct kvs) x) : ∃ a vs u, x = .ref a ∧ Rd H a u ∧ DicO kvs vs u ∧ RpK K P H kvs vs := by
  rcases h with h | ⟨a, e, t⟩
  · simp only [Rp] at h
    obtain ⟨a, vs, u, e, _, r, q, w⟩ := h
    exact ⟨a, vs, u, e, r, q, w⟩
  · obtain ⟨vs, u, r, q, w⟩ := t
    exact ⟨a, vs, u, e, r, q, w⟩
/-! ### rows of data -/
theorem RpL.length : ∀ {ds : List D} {vs : List V}, RpL K P H ds vs → vs.length = ds.length
  | [], vs, h => by simp only [RpL] at h; rw [h]; rfl
  | d :: ds, vs, h => by
    simp only [RpL] at h
    obtain ⟨v, vs', rfl, _, q⟩ := h
    simp [RpL.length q]
theorem RpL.nil : RpL K P H [] [] := by simp only [RpL]
theorem RpL.cons {d : D} {v : V} {ds : List D} {vs : List V} (h : Rp K P H d v) (t : RpL K P H ds vs) : RpL K P H (d :: ds) (v :: vs) := by
  simp only [RpL]; exact ⟨v, vs, rfl, h, t⟩
theorem RpL.append : ∀ {ds es : List D} {vs ws : List V}, RpL K P H ds vs → RpL K P H es ws → RpL K P H (ds ++ es) (vs ++ ws)
  | [], es, vs, ws, h, t => by simp only [RpL] at h; rw [h]; exact t
  | d :: ds, es, vs, ws, h, t => by
    simp only [RpL] at h
    obtain ⟨v, vs', rfl, q, h⟩ := h
    exact RpL.cons q (RpL.append h t)
theorem RpL.rep {ds : List D} {vs : List V} (h : RpL K P H ds vs) : ∀ n, RpL K P H (repL ds n) (List.replicate n vs).flatten
  | 0 => RpL.nil
  | n + 1 => by
    rw [List.replicate_succ, List.flatten_cons]
    exact RpL.append h (RpL.rep h n)
theorem RpL.get : ∀ {ds : List D} {vs : List V} {i : Nat} {d : D}, RpL K P H ds vs → ds[i]? = some d → ∃ v, vs[i]? = some v ∧ Rp K P H d v
  | [], _, _, _, _, e => by simp at e
  | d :: ds, vs, 0, _, h, e => by
    simp only [RpL] at h
    obtain ⟨v, vs', rfl, q, h⟩ := h
    simp at e; subst e
    exact ⟨v, rfl, q⟩
  | d :: ds, vs, i + 1, _, h, e => by
    simp only [RpL] at h
    obtain ⟨v, vs', rfl, q, h⟩ := h
    simp at e
    obtain ⟨w, e1, q1⟩ := RpL.get h e
    exact ⟨w, by simpa using e1, q1⟩
theorem RpL.take : ∀ {ds : List D} {vs : List V} (n : Nat), RpL K P H ds vs → RpL K P H (ds.take n) (vs.take n)
  | [], vs, n, h => by simp only [RpL] at h; subst h; simp [RpL]
  | d :: ds, vs, 0, h => by simp [RpL]
  | d :: ds, vs, n + 1, h => by
    simp only [RpL] at h
    obtain ⟨v, vs', rfl, q, h⟩ := h
    exact RpL.cons q (RpL.take n h)
theorem RpL.drop : ∀ {ds : List D} {vs : List V} (n : Nat), RpL K P H ds vs → RpL K P H (ds.drop n) (vs.drop n)
  | [], vs, n, h => by simp only [RpL] at h; subst h; simp [RpL]
  | d :: ds, vs, 0, h => h
  | d :: ds, vs, n + 1, h => by
    simp only [RpL] at h
    obtain ⟨v, vs', rfl, q, h⟩ := h
    exact RpL.drop n h
theorem RpL.reverse : ∀ {ds : List D} {vs : List V}, RpL K P H ds vs → RpL K P H ds.reverse vs.reverse
  | [], vs, h => by simp only [RpL] at h; subst h; simp [RpL]
  | d :: ds, vs, h => by
    simp only [RpL] at h
    obtain ⟨v, vs', rfl, q, h⟩ := h
    rw [List.reverse_cons, List.reverse_cons]
    exact RpL.append (RpL.reverse h) (RpL.cons q RpL.nil)
theorem RpL.set {d : D} {v : V} (q0 : Rp K P H d v) : ∀ {ds : List D} {vs : List V} (i : Nat), RpL K P H ds vs → RpL K P H (ds.set i d) (vs.set i v)
  | [], vs, i, h => by simp only [RpL] at h; subst h; simp [RpL]
  | _ :: ds, vs, 0, h => by
    simp only [RpL] at h
    obtain ⟨v, vs', rfl, q, h⟩ := h
    exact RpL.cons q0 h
  | _ :: ds, vs, i + 1, h => by
    simp only [RpL] at h
    obtain ⟨v, vs', rfl, q, h⟩ := h
    exact RpL.cons q (RpL.set q0 i h)
theorem RpL.eraseIdx {ds : List D} {vs : List V} (i : Nat) (h : RpL K P H ds vs) : RpL K P H (ds.eraseIdx i) (vs.eraseIdx i) := by
  rw [List.eraseIdx_eq_take_drop_succ, List.eraseIdx_eq_take_drop_succ]
  exact RpL.append (h.take i) (h.drop (i + 1))
theorem RpL.nil_iff {ds : List D} {vs : List V} (h : RpL K P H ds vs) : vs = [] ↔ ds = [] := by
  have e := h.length
  rw [← List.length_eq_zero_iff, ← List.length_eq_zero_iff, e]
/-! ### new things -/
theorem RpL.grow {ds : List D} {vs : List V} (g : Grow H H') (h : RpL K P H ds vs) {Q : Addr → Prop} (hp : ∀ a, (∃ o, H a = some o) → P a → Q a) : RpL K Q H' ds vs :=
  RpL.keep (fun a o e _ => g a o e) hp ds vs h
theorem Rp.grow {d : D} {v : V} (g : Grow H H') (h : Rp K P H d v) {Q : Addr → Prop} (hp : ∀ a, (∃ o, H a = some o) → P a → Q a) : Rp K Q H' d v :=
  Rp.keep (fun a o e _ => g a o e) hp d v h
theorem newVal {d : D} {v : V} (h : Rp K P H d v) : New K P H H .val d v := Rp.grow (Grow.refl H) h fun _ _ p => .inl p
theorem newLst {ds : List D} {vs : List V} {p : Addr} (h : RpL K P H ds vs) (hp : H p = none) : New K P H (upd H p (.lst vs)) .own (.lst ds) (.ref p) :=
  ⟨p, rfl, hp, vs, upd_same, h.grow (Grow.new hp) fun a ⟨o, e⟩ q => ⟨.inl q, ne_of_none e hp⟩⟩
theorem newTup {ds : List D} {vs : List V} {p : Addr} (h : RpL K P H ds vs) (hp : H p = none) : New K P H (upd H p (.tup vs)) .val (.tup ds) (.ref p) := by
  simp only [New, Rp]
  exact ⟨p, vs, rfl, .inl (.inl upd_same), h.grow (Grow.new hp) fun a _ q => .inl q⟩
theorem rpTup {ds : List D} {vs : List V} {a : Addr} (r : SqT K H a vs) (h : RpL K P H ds vs) : Rp K P H (.tup ds) (.ref a) := by
  simp only [Rp]; exact ⟨a, vs, rfl, r, h⟩
/-! ### operators of values -/
def rD (K : PySem.W.Frag) (g : D → D → Option (Ow × D)) : R2 := fun x y H Q => ∃ P d1 d2 o d, RpT K P H d1 x ∧ RpT K P H d2 y ∧ g d1 d2 = some (o, d) ∧ ∀ v H', Grow H H' → New K P H H' o d v → Q v H'
theorem rD_op2 (K : PySem.W.Frag) (g : D → D → Option (Ow × D)) : Op2 K (rD K g) g := fun P H x y d1 d2 o d Q h1 h2 e q => ⟨P, d1, d2, o, d, h1, h2, e, q⟩
def rD1 (K : PySem.W.Frag) (g : D → Option (Ow × D)) : V → Hp → VK → Prop := fun x H Q => ∃ P d1 o d, RpT K P H d1 x ∧ g d1 = some (o, d) ∧ ∀ v H', Grow H H' → New K P H H' o d v → Q v H'
theorem rD1_op1 (K : PySem.W.Frag) (g : D → Option (Ow × D)) : Op1 K (rD1 K g) g := fun P H x d1 o d Q h1 e q => ⟨P, d1, o, d, h1, e, q⟩
end
section
variable {X : Cx}
theorem sizeLine_few {n : Nat} (h : few n = true) : n ≤ sizeLine := by
  have := of_decide_eq_true h
  exact this
theorem lstR {pins : List (Addr × Obj)} {s : Shared} {σ : L2.St} {H : Hp} {l : Addr} {xs : List V} (I : Inv X pins σ H s) (h : Rd H l (.lst xs)) : xs.length ≤ sizeLine ∧ ∃ (its : List Value) (n : Nat), Vals xs its ∧ xs.length = its.length ∧ s.heap.get? l = some { cls := .type "list", data := .seq its.toArray n } := by
  obtain ⟨z, its, n, r, e⟩ := h.ok I.hok
  exact ⟨z, its, n, r, r.length, e⟩
theorem op_catR : OpR X (binaryOp .Add) (fun x y H Q => ∃ l b xs zs, x = .ref l ∧ y = .ref b ∧ Rd H l (.lst xs) ∧ Rd H b (.lst zs) ∧ xs.length + zs.length ≤ sizeLine ∧ ∀ p, H p = none → Q (.ref p) (upd H p (.lst (xs ++ zs)))) := by
  intro pins s σ H x y v u Q I rx ry h
  obtain ⟨l, b, xs, zs, rfl, rfl, hH, hB, hz, q⟩ := h
  cases rx
  cases ry
  obtain ⟨_, its, n, r, hl, e⟩ := lstR I hH
  obtain ⟨_, its2, n2, r2, hl2, e2⟩ := lstR I hB
  refine PySem.P.add_list e e2 ?_ (by rw [List.size_toArray, List.size_toArray]; omega)
  rw [show its.toArray ++ its2.toArray = (its ++ its2).toArray by simp]
  exact ⟨.ref _, _, I.lnew (t' := s.toks) (r.append r2) (by rw [List.length_append]; omega), rfl, q _ I.fresh⟩
theorem foldRep (xs : List Value) : ∀ n acc, List.foldl (fun (p q : Array Value) => p ++ q) acc (List.replicate n xs.toArray) = acc ++ (List.replicate n xs).flatten.toArray
  | 0, acc => by simp
  | n + 1, acc => by
    rw [List.replicate_succ, List.foldl_cons, foldRep xs n, List.replicate_succ, List.flatten_cons]
    simp
theorem op_repR : OpR X (binaryOp .Mult) (fun x y H Q => ∃ l k xs, x = .ref l ∧ y = .int k ∧ Rd H l (.lst xs) ∧ (-(2 ^ 63) ≤ k ∧ k < 2 ^ 63) ∧ xs.length * k.toNat ≤ sizeLine ∧ ∀ p, H p = none → Q (.ref p) (upd H p (.lst (List.replicate k.toNat xs).flatten))) := by
  intro pins s σ H x y v u Q I rx ry h
  obtain ⟨l, k, xs, rfl, rfl, hH, ⟨k1, k2⟩, hz, q⟩ := h
  cases rx
  obtain ⟨t, rfl⟩ := ry
  obtain ⟨_, its, n, r, hl, e⟩ := lstR I hH
  have z1 : its.toArray.size * k.toNat ≤ sizeLine := by rw [List.size_toArray, ← hl]; exact hz
  have z2 : (sizeLine : Nat) ≤ (2 ^ 63 - 1) / 8 := by decide
  have no : ∀ {b : Bool}, b = false → ¬ b = true := fun e => by rw [e]; decide
  refine wpAny_binaryOp_repeat_ref (T := "list") (U := "int") (by decide) ⟨_, e, rfl⟩ (fun s2 => typeIs_int s2 k t) noFill_list_mul F.fills_int_mul F.slot_int_rmul repeat_list F.slot_int_index.lookup ?_
  refine call_meets F.slot_int_rmul (typeIs_int s k t) F.entry_int_rmul (F.args_int_rmul_2 _ _) (int___rmul___int_list k t l its.toArray n) ⟨e, rfl, ⟨_, e, rfl⟩, ?_⟩
  refine call_meets F.slot_list_mul ⟨_, e, rfl⟩ F.entry_list_mul (F.args_list_mul_2 _ _) (AutoListH.list___mul___list_int_3 l its.toArray n k t (no (by simp [Builtin.List.listFitsIndex]; omega)) (by omega) (no (notLongL z1))) ⟨e, ?_⟩
  have fl : ∀ m, List.foldl (fun (p q : Array Value) => p ++ q) #[] (List.replicate m its.toArray) = (List.replicate m its).flatten.toArray := fun m => by rw [foldRep]; simp
  have new : List.foldl (fun (p q : Array Value) => p ++ q) #[] (List.replicate (if its.toArray.isEmpty = true then 0 else k.toNat) its.toArray) = (List.replicate k.toNat its).flatten.toArray := by
    rw [fl]
    cases its with
    | nil => simp
    | cons => rw [if_neg (by simp)]
  rw [new]
  exact ⟨.ref _, _, I.lnew (t' := s.toks) (r.rep k.toNat) (by rw [PyProof.Rows.lm_len_rep_flat, Nat.mul_comm]; exact hz), rfl, q _ I.fresh⟩
end
end VS
end

section
set_option autoImplicit false
set_option linter.all false
namespace VS
open PySem PySem.Spec PyProof.Rows L2
section
variable {X : Cx}
theorem newI {K : PySem.W.Frag} {P : Addr → Prop} {H : Hp} {i : Int} : New K P H H .val (.int i) (.int i) := newVal (by simp only [Rp])
theorem newB {K : PySem.W.Frag} {P : Addr → Prop} {H : Hp} {i : Bool} : New K P H H .val (.bl i) (.bl i) := newVal (by simp only [Rp])
theorem newT {K : PySem.W.Frag} {P : Addr → Prop} {H : Hp} {s : List Nat} : New K P H H .val (.str s) (.str (tx s)) := newVal (by simp only [Rp]; rfl)
theorem op_addD : OpR X (binaryOp .Add) (rD X.K (binD .add)) := by
  intro pins s σ H x y v u Q I rx ry ⟨P, d1, d2, o, d, h1, h2, e, q⟩
  cases d1 <;> cases d2 <;> (try simp only [binD, reduceCtorEq] at e)
  · cases e
    exact op_add pins s σ H x y v u Q I rx ry ⟨_, _, h1.int, h2.int, q _ _ (Grow.refl H) newI⟩
  · split at e <;> cases e
    rename_i hz
    refine op_add_str pins s σ H x y v u Q I rx ry ⟨_, _, h1.str, h2.str, ?_, ?_⟩
    · rw [tx_length, tx_length]; exact sizeLine_few hz
    · rw [tx_append]; exact q _ _ (Grow.refl H) newT
  · split at e <;> cases e
    rename_i hz
    obtain ⟨a, vs, e1, r1, l1⟩ := h1.tup
    obtain ⟨b, ws, e2, r2, l2⟩ := h2.tup
    refine op_catA pins s σ H x y v u Q I rx ry ⟨a, b, vs, ws, e1, e2, r1, r2, ?_, fun z => ?_, fun _ z => ?_, fun _ _ p hp => ?_⟩
    · rw [l1.length, l2.length]; exact sizeLine_few hz
    · rw [l1.nil_iff] at z; subst z
      exact q _ _ (Grow.refl H) (newVal (rpTup r2 (by simpa using l2)))
    · rw [l2.nil_iff] at z; subst z
      exact q _ _ (Grow.refl H) (newVal (rpTup r1 (by simpa using l1)))
    · exact q _ _ (Grow.new hp) (newTup (l1.append l2) hp)
  · split at e <;> cases e
    rename_i hz
    obtain ⟨a, vs, e1, r1, l1⟩ := h1.lst
    obtain ⟨b, ws, e2, r2, l2⟩ := h2.lst
    refine op_catR pins s σ H x y v u Q I rx ry ⟨a, b, vs, ws, e1, e2, r1, r2, ?_, fun p hp => ?_⟩
    · rw [l1.length, l2.length]; exact sizeLine_few hz
    · exact q _ _ (Grow.new hp) (newLst (l1.append l2) hp)
theorem op_subD : OpR X (binaryOp .Sub) (rD X.K (binD .sub)) := by
  intro pins s σ H x y v u Q I rx ry ⟨P, d1, d2, o, d, h1, h2, e, q⟩
  cases d1 <;> cases d2 <;> (try simp only [binD, reduceCtorEq] at e)
  cases e
  exact op_sub pins s σ H x y v u Q I rx ry ⟨_, _, h1.int, h2.int, q _ _ (Grow.refl H) newI⟩
theorem op_mulD : OpR X (binaryOp .Mult) (rD X.K (binD .mul)) := by
  intro pins s σ H x y v u Q I rx ry ⟨P, d1, d2, o, d, h1, h2, e, q⟩
  cases d1 <;> cases d2 <;> (try simp only [binD, reduceCtorEq] at e)
  · split at e <;> cases e
    rename_i i j hz
    simp only [mulOk, Bool.or_eq_true, Bool.and_eq_true, decide_eq_true_eq] at hz
    rcases hz with hz | hz
    · exact op_mul pins s σ H x y v u Q I rx ry ⟨_, _, h1.int, h2.int, hz, q _ _ (Grow.refl H) newI⟩
    · exact op_mulW pins s σ H x y v u Q I rx ry ⟨_, _, h1.int, h2.int, hz, q _ _ (Grow.refl H) newI⟩
  · split at e <;> cases e
    rename_i j hz
    simp only [Bool.and_eq_true, decide_eq_true_eq, Bool.not_eq_true', List.isEmpty_eq_false_iff] at hz
    obtain ⟨⟨⟨z1, z2⟩, z3⟩, z4⟩ := hz
    obtain ⟨a, vs, e1, r1, l1⟩ := h1.tup
    refine op_repT pins s σ H x y v u Q I rx ry ⟨a, _, vs, e1, h2.int, r1, fun z => z4 (l1.nil_iff.1 z), z1, z2, ?_, fun p hp => ?_⟩
    · rw [l1.length]; exact z3
    · exact q _ _ (Grow.new hp) (newTup (l1.rep _) hp)
  · split at e <;> cases e
    rename_i j hz
    simp only [Bool.and_eq_true, decide_eq_true_eq] at hz
    obtain ⟨a, vs, e1, r1, l1⟩ := h1.lst
    refine op_repR pins s σ H x y v u Q I rx ry ⟨a, _, vs, e1, h2.int, r1, ⟨hz.1.1, by omega⟩, ?_, fun p hp => ?_⟩
    · rw [l1.length]; exact sizeLine_few hz.2
    · exact q _ _ (Grow.new hp) (newLst (l1.rep _) hp)
theorem op_fdivD : OpR X (binaryOp .FloorDiv) (rD X.K (binD .fdiv)) := by
  intro pins s σ H x y v u Q I rx ry ⟨P, d1, d2, o, d, h1, h2, e, q⟩
  cases d1 <;> cases d2 <;> (try simp only [binD, reduceCtorEq] at e)
  split at e <;> cases e
  rename_i i j hz
  simp only [divOk, Bool.or_eq_true, Bool.and_eq_true, decide_eq_true_eq] at hz
  rcases hz with hz | hz
  · exact op_fdivN pins s σ H x y v u Q I rx ry ⟨_, _, h1.int, h2.int, hz, q _ _ (Grow.refl H) newI⟩
  · refine op_fdivW pins s σ H x y v u Q I rx ry ⟨_, _, h1.int, h2.int, hz, ?_⟩
    have z : i / j = i.fdiv j := (Int.fdiv_eq_ediv_of_nonneg i (Int.le_of_lt hz.1)).symm
    show Q (.int (i / j)) H
    rw [z]
    exact q _ _ (Grow.refl H) newI
theorem op_modD : OpR X (binaryOp .Mod) (rD X.K (binD .mod)) := by
  intro pins s σ H x y v u Q I rx ry ⟨P, d1, d2, o, d, h1, h2, e, q⟩
  cases d1 <;> cases d2 <;> (try simp only [binD, reduceCtorEq] at e)
  split at e <;> cases e
  rename_i i j hz
  exact op_modN pins s σ H x y v u Q I rx ry ⟨_, _, h1.int, h2.int, hz, q _ _ (Grow.refl H) newI⟩
theorem op_powD : OpR X (binaryOp .Pow) (rD X.K (binD .pow)) := by
  intro pins s σ H x y v u Q I rx ry ⟨P, d1, d2, o, d, h1, h2, e, q⟩
  cases d1 <;> cases d2 <;> (try simp only [binD, reduceCtorEq] at e)
  split at e <;> cases e
  rename_i i j hz
  exact op_pow pins s σ H x y v u Q I rx ry ⟨_, _, h1.int, h2.int, hz, q _ _ (Grow.refl H) newI⟩
def opB : BOp → Operator
  | .add => .Add | .sub => .Sub | .mul => .Mult | .fdiv => .FloorDiv | .mod => .Mod | .pow => .Pow
theorem op_binD (o : BOp) : OpR X (binaryOp (opB o)) (rD X.K (binD o)) := by
  cases o
  · exact op_addD
  · exact op_subD
  · exact op_mulD
  · exact op_fdivD
  · exact op_modD
  · exact op_powD
end
end VS
end

section
set_option autoImplicit false
set_option linter.all false
/-! VCmp: comparisons of plain data. -/
namespace VS
open PySem PySem.Spec PyProof.Rows L2

/-! ### plain data as the kit's -/
mutual
def pd : D → PyData
  | .non => .none
  | .bl b => .bool b
  | .int i => .int i
  | .str s => .str (tx s)
  | .tup ds => .tuple (pdL ds)
  | .lst ds => .list (pdL ds)
  | .dct _ => .dict []
def pdL : List D → List PyData
  | [] => []
  | d :: ds => pd d :: pdL ds
end
theorem pdL_map : ∀ ds, pdL ds = ds.map pd
  | [] => by simp only [pdL, List.map_nil]
  | d :: ds => by simp only [pdL, List.map_cons, pdL_map ds]
theorem tx_inj {s t : List Nat} (h : tx s = tx t) : s = t := by
  have e : s.toArray = t.toArray := congrArg PySem.Str.cps h
  simpa using e
theorem tx_beq (s t : List Nat) : (tx s == tx t) = (s == t) := by
  rw [Bool.eq_iff_iff]
  simp only [beq_iff_eq]
  exact ⟨tx_inj, fun e => by rw [e]⟩
theorem all_eq {α : Type} {p : α → Bool} {x : α} {xs : List α} (h : (x :: xs).all p = true) : p x = true ∧ xs.all p = true := by
  simpa using h
mutual
theorem peq_eqv : ∀ (n : Nat) (d e : D), shal n d = true → shal n e = true → PyData.eqv (pd d) (pd e) = peq d e
  | n, .non, e, _, _ => by cases e <;> simp [pd, peq, PyData.eqv]
  | n, .bl b, e, _, _ => by cases e <;> simp [pd, peq, PyData.eqv]
  | n, .int i, e, _, _ => by cases e <;> simp [pd, peq, PyData.eqv]
  | n, .str s, e, _, _ => by cases e <;> simp only [pd, peq, PyData.eqv, tx_beq]
  | n, .tup ds, e, h, h' => by
    cases e with
    | tup es =>
      cases n with
      | zero => simp [shal] at h
      | succ n =>
        simp only [shal] at h h'
        simp only [pd, peq, PyData.eqv]
        exact peqL_eqv n ds es h h'
    | _ => simp [pd, peq, PyData.eqv]
  | n, .lst ds, e, h, h' => by
    cases e with
    | lst es =>
      cases n with
      | zero => simp [shal] at h
      | succ n =>
        simp only [shal] at h h'
        simp only [pd, peq, PyData.eqv]
        exact peqL_eqv n ds es h h'
    | _ => simp [pd, peq, PyData.eqv]
  | n, .dct kvs, e, h, _ => by cases n <;> simp [shal] at h
theorem peqL_eqv : ∀ (n : Nat) (ds es : List D), ds.all (shal n) = true → es.all (shal n) = true → PyData.eqvAll (pdL ds) (pdL es) = peqL ds es
  | _, [], [], _, _ => by simp [pdL, peqL, PyData.eqvAll]
  | _, [], _ :: _, _, _ => by simp [pdL, peqL, PyData.eqvAll]
  | _, _ :: _, [], _, _ => by simp [pdL, peqL, PyData.eqvAll]
  | n, d :: ds, e :: es, h, h' => by
    simp only [pdL, peqL, PyData.eqvAll, peq_eqv n d e (all_eq h).1 (all_eq h').1, peqL_eqv n ds es (all_eq h).2 (all_eq h').2]
end
mutual
theorem shal_lay : ∀ (n : Nat) (d : D), shal n d = true → (pd d).canLay0 = true ∧ (pd d).depth ≤ n
  | n, .non, _ => by simp [pd, PyData.canLay0, PyData.depth]
  | n, .bl b, _ => by simp [pd, PyData.canLay0, PyData.depth]
  | n, .int i, _ => by simp [pd, PyData.canLay0, PyData.depth]
  | n, .str s, h => by
    cases n <;> simpa [shal, pd, PyData.canLay0, PyData.depth, PyData.strOk, tx] using h
  | n, .tup ds, h => by
    cases n with
    | zero => simp [shal] at h
    | succ n =>
      simp only [shal] at h
      have := shalL_lay n ds h
      simp only [pd, PyData.canLay0, PyData.depth]
      exact ⟨this.1, Nat.succ_le_succ this.2⟩
  | n, .lst ds, h => by
    cases n with
    | zero => simp [shal] at h
    | succ n =>
      simp only [shal] at h
      have := shalL_lay n ds h
      simp only [pd, PyData.canLay0, PyData.depth]
      exact ⟨this.1, Nat.succ_le_succ this.2⟩
  | n, .dct kvs, h => by cases n <;> simp [shal] at h
theorem shalL_lay : ∀ (n : Nat) (ds : List D), ds.all (shal n) = true → PyData.canLayAll0 (pdL ds) = true ∧ PyData.depthAll (pdL ds) ≤ n
  | n, [], _ => by simp [pdL, PyData.canLayAll0, PyData.depthAll]
  | n, d :: ds, h => by
    have h1 := shal_lay n d (all_eq h).1
    have h2 := shalL_lay n ds (all_eq h).2
    simp only [pdL, PyData.canLayAll0, PyData.depthAll, h1.1, h2.1, Bool.and_self, true_and]
    omega
end

theorem shal_shaped {n : Nat} {d : D} (h : shal n d = true) (hn : n ≤ 64) : SeqAt.shaped (pd d) = true := by
  have := shal_lay n d h
  unfold SeqAt.shaped
  rw [this.1, Bool.true_and]
  exact decide_eq_true (by omega)
section
variable {K : PySem.W.Frag} {P : Addr → Prop} {H : Hp}
mutual
theorem Rp.dp : ∀ (n : Nat) (d : D) (v : V), shal n d = true → Rp K P H d v → Dp K H v (pd d)
  | n, .non, v, _, h => by simp only [Rp] at h; subst h; simp only [pd]; exact .non
  | n, .bl b, v, _, h => by simp only [Rp] at h; subst h; simp only [pd]; exact .bl b
  | n, .int i, v, _, h => by simp only [Rp] at h; subst h; simp only [pd]; exact .int i
  | n, .str s, v, _, h => by simp only [Rp] at h; subst h; simp only [pd]; exact .str _
  | n, .tup ds, v, s, h => by
    cases n with
    | zero => simp [shal] at s
    | succ n =>
      simp only [shal] at s
      simp only [Rp] at h
      obtain ⟨a, vs, rfl, r, l⟩ := h
      simp only [pd]
      exact .tup r (RpL.dp n ds vs s l)
  | n, .lst ds, v, s, h => by
    cases n with
    | zero => simp [shal] at s
    | succ n =>
      simp only [shal] at s
      simp only [Rp] at h
      obtain ⟨a, vs, rfl, _, r, l⟩ := h
      simp only [pd]
      exact .lst (.inl r) (RpL.dp n ds vs s l)
  | n, .dct kvs, v, s, h => by cases n <;> simp [shal] at s
theorem RpL.dp : ∀ (n : Nat) (ds : List D) (vs : List V), ds.all (shal n) = true → RpL K P H ds vs → DpAll K H vs (pdL ds)
  | n, [], vs, _, h => by simp only [RpL] at h; subst h; simp only [pdL]; exact .nil
  | n, d :: ds, vs, s, h => by
    simp only [RpL] at h
    obtain ⟨v, vs', rfl, q, l⟩ := h
    simp only [pdL]
    exact .cons (Rp.dp n d v (all_eq s).1 q) (RpL.dp n ds vs' (all_eq s).2 l)
end
theorem RpT.dp {n : Nat} {d : D} {v : V} (s : shal n d = true) (h : RpT K P H d v) : Dp K H v (pd d) := by
  rcases h with h | ⟨a, rfl, t⟩
  · exact h.dp n d v s
  · cases d with
    | lst ds =>
      cases n with
      | zero => simp [shal] at s
      | succ n =>
        simp only [shal] at s
        obtain ⟨vs, r, l⟩ := t
        simp only [pd]
        exact .lst (.inl r) (RpL.dp n ds vs s l)
    | dct kvs => cases n <;> simp [shal] at s
    | _ => exact t.elim
/-! ### flat things -/
theorem flat_V {d : D} {v : V} (f : flat d = true) (h : Rp K P H d v) : flatV v = true := by
  cases d <;> simp [flat] at f <;> simp only [Rp] at h <;> subst h <;> rfl
theorem flat_eq {d e : D} {v w : V} (f : flat d = true) (g : flat e = true) (h : Rp K P H d v) (h' : Rp K P H e w) : eqV v w = peq d e := by
  cases d <;> simp [flat] at f <;> cases e <;> simp [flat] at g <;> simp only [Rp] at h h' <;> subst h <;> subst h' <;> simp only [eqV, peq]
  exact tx_beq _ _
theorem flat_all : ∀ {ds : List D} {vs : List V}, ds.all flat = true → RpL K P H ds vs → vs.all flatV = true
  | [], vs, _, h => by simp only [RpL] at h; subst h; rfl
  | d :: ds, vs, f, h => by
    simp only [RpL] at h
    obtain ⟨v, vs', rfl, q, l⟩ := h
    rw [List.all_cons, flat_V (all_eq f).1 q, flat_all (all_eq f).2 l]; rfl
theorem flat_in {a : D} {x : V} (fa : flat a = true) (ra : Rp K P H a x) : ∀ {ds : List D} {vs : List V}, ds.all flat = true → RpL K P H ds vs → inV x vs = ds.any fun z => peq z a
  | [], vs, _, h => by simp only [RpL] at h; subst h; rfl
  | d :: ds, vs, f, h => by
    simp only [RpL] at h
    obtain ⟨v, vs', rfl, q, l⟩ := h
    have := flat_in fa ra (all_eq f).2 l
    unfold inV at this ⊢
    rw [List.any_cons, List.any_cons, flat_eq (all_eq f).1 fa q ra, this]
theorem RpT.rp_flat {a : D} {x : V} (fa : flat a = true) (h : RpT K P H a x) : Rp K P H a x := by
  rcases h with h | ⟨p, _, t⟩
  · exact h
  · cases a <;> first | exact t.elim | simp [flat] at fa
end
end VS
end

section
set_option autoImplicit false
set_option linter.all false
/-! VCmp2: comparisons. -/
namespace VS
open PySem PySem.Spec PyProof.Rows L2

theorem ltL_eq : ∀ (s t : List Nat), ltL s t = decide (s < t)
  | [], [] => by simp [ltL]
  | _ :: _, [] => by simp [ltL]
  | [], _ :: _ => by simp [ltL]
  | a :: s, b :: t => by
    simp only [ltL, ltL_eq s t, List.cons_lt_cons_iff]
    by_cases h : a = b
    · subst h; simp
    · simp [h]
theorem lexI_eq : ∀ (s t : List Int), lexI s t = HT.lexLt s t
  | [], [] => rfl
  | _ :: _, [] => rfl
  | [], _ :: _ => rfl
  | a :: s, b :: t => by
    simp only [lexI, HT.lexLt, lexI_eq s t]
    by_cases h : a = b <;> simp [h]
section
variable {K : PySem.W.Frag} {P : Addr → Prop} {H : Hp} {X : Cx}
theorem intsD_rp : ∀ {ds : List D} {is : List Int} {vs : List V}, intsD ds = some is → RpL K P H ds vs → vs = is.map V.int
  | [], is, vs, e, h => by
    simp only [intsD, Option.some.injEq] at e
    simp only [RpL] at h
    subst e; subst h; rfl
  | .int i :: ds, is, vs, e, h => by
    simp only [intsD, Option.map_eq_some_iff] at e
    obtain ⟨js, e1, rfl⟩ := e
    simp only [RpL, Rp] at h
    obtain ⟨v, vs', rfl, rfl, l⟩ := h
    rw [intsD_rp e1 l]; rfl
  | .non :: _, _, _, e, _ => by simp [intsD] at e
  | .bl _ :: _, _, _, e, _ => by simp [intsD] at e
  | .str _ :: _, _, _, e, _ => by simp [intsD] at e
  | .tup _ :: _, _, _, e, _ => by simp [intsD] at e
  | .lst _ :: _, _, _, e, _ => by simp [intsD] at e
  | .dct _ :: _, _, _, e, _ => by simp [intsD] at e
def opC : COp → CmpOp
  | .eq => .Eq | .ne => .NotEq | .lt => .Lt | .le => .LtE | .gt => .Gt | .ge => .GtE | .isn => .Is | .nisn => .IsNot | .isin => .In | .notin => .NotIn
/-- what is behind a comparison of plain data -/
def rC (K : PySem.W.Frag) (g : D → D → Option Bool) : R2 := fun x y H Q => ∃ P d1 d2 k, RpT K P H d1 x ∧ RpT K P H d2 y ∧ g d1 d2 = some k ∧ Q (.bl k) H
theorem op_eqC (hu : X.A.units + 65 < cLine) : OpR X (compareOp .Eq) (rC X.K (cmpD .eq)) := by
  intro pins s σ H x y v u Q I rx ry ⟨P, d1, d2, k, h1, h2, e, q⟩
  simp only [cmpD] at e
  split at e <;> cases e
  rename_i hs
  obtain ⟨s1, s2⟩ := Bool.and_eq_true_iff.1 hs
  refine op_eqD (by omega) pins s σ H x y v u Q I rx ry ⟨_, _, h1.dp s1, h2.dp s2, shal_shaped s1 (by omega), shal_shaped s2 (by omega), ?_⟩
  rw [peq_eqv 8 d1 d2 s1 s2]; exact q
theorem op_neC (hu : X.A.units + 65 < cLine) : OpR X (compareOp .NotEq) (rC X.K (cmpD .ne)) := by
  intro pins s σ H x y v u Q I rx ry ⟨P, d1, d2, k, h1, h2, e, q⟩
  simp only [cmpD] at e
  split at e <;> cases e
  rename_i hs
  obtain ⟨s1, s2⟩ := Bool.and_eq_true_iff.1 hs
  refine op_neD (by omega) pins s σ H x y v u Q I rx ry ⟨_, _, h1.dp s1, h2.dp s2, shal_shaped s1 (by omega), shal_shaped s2 (by omega), ?_⟩
  rw [peq_eqv 8 d1 d2 s1 s2]; exact q
theorem op_ltC (hu : X.A.units + 65 < cLine) : OpR X (compareOp .Lt) (rC X.K (cmpD .lt)) := by
  intro pins s σ H x y v u Q I rx ry ⟨P, d1, d2, k, h1, h2, e, q⟩
  simp only [cmpD] at e
  cases d1 <;> cases d2 <;> (try simp only [ltD, reduceCtorEq] at e)
  · cases e
    exact op_lt pins s σ H x y v u Q I rx ry ⟨_, _, h1.int, h2.int, q⟩
  · cases e
    refine op_lt_str pins s σ H x y v u Q I rx ry ⟨_, _, h1.str, h2.str, ?_⟩
    rw [ltL_eq] at q; exact q
  · simp only [Option.bind_eq_some_iff, Option.map_eq_some_iff] at e
    obtain ⟨is, e1, js, e2, rfl⟩ := e
    obtain ⟨a, vs, ea, r1, l1⟩ := h1.tup
    obtain ⟨b, ws, eb, r2, l2⟩ := h2.tup
    rw [intsD_rp e1 l1] at r1
    rw [intsD_rp e2 l2] at r2
    refine op_ltT (by omega) pins s σ H x y v u Q I rx ry ⟨a, b, is, js, ea, eb, r1, r2, ?_⟩
    rw [lexI_eq] at q; exact q
theorem op_gtC : OpR X (compareOp .Gt) (rC X.K (cmpD .gt)) := by
  intro pins s σ H x y v u Q I rx ry ⟨P, d1, d2, k, h1, h2, e, q⟩
  cases d1 <;> cases d2 <;> (try simp only [cmpD, reduceCtorEq] at e)
  · cases e
    exact op_gt pins s σ H x y v u Q I rx ry ⟨_, _, h1.int, h2.int, q⟩
  · cases e
    refine op_gt_str pins s σ H x y v u Q I rx ry ⟨_, _, h1.str, h2.str, ?_⟩
    rw [ltL_eq] at q; exact q
theorem op_leC : OpR X (compareOp .LtE) (rC X.K (cmpD .le)) := by
  intro pins s σ H x y v u Q I rx ry ⟨P, d1, d2, k, h1, h2, e, q⟩
  cases d1 <;> cases d2 <;> (try simp only [cmpD, reduceCtorEq] at e)
  cases e
  exact op_le pins s σ H x y v u Q I rx ry ⟨_, _, h1.int, h2.int, q⟩
theorem op_geC : OpR X (compareOp .GtE) (rC X.K (cmpD .ge)) := by
  intro pins s σ H x y v u Q I rx ry ⟨P, d1, d2, k, h1, h2, e, q⟩
  cases d1 <;> cases d2 <;> (try simp only [cmpD, reduceCtorEq] at e)
  cases e
  exact op_ge pins s σ H x y v u Q I rx ry ⟨_, _, h1.int, h2.int, q⟩
def isNonD : D → Bool
  | .non => true
  | _ => false
theorem RpT.isNon {d : D} {x : V} (h : RpT K P H d x) : decide (x = .non) = isNonD d := by
  cases d with
  | non => have := h.non; subst this; rfl
  | bl b => have := h.bl; subst this; rfl
  | int i => have := h.int; subst this; rfl
  | str s => have := h.str; subst this; rfl
  | tup ds => obtain ⟨a, vs, e, _⟩ := h.tup; subst e; rfl
  | lst ds => obtain ⟨a, vs, e, _⟩ := h.lst; subst e; rfl
  | dct ds => obtain ⟨a, vs, u, e, _⟩ := h.dct; subst e; rfl
theorem op_isC : OpR X (compareOp .Is) (rC X.K (cmpD .isn)) := by
  intro pins s σ H x y v u Q I rx ry ⟨P, d1, d2, k, h1, h2, e, q⟩
  cases d2 <;> simp only [cmpD, reduceCtorEq] at e
  cases e
  refine op_isN pins s σ H x y v u Q I rx ry ⟨h2.non, ?_⟩
  rw [h1.isNon]
  cases d1 <;> exact q
theorem op_nisC : OpR X (compareOp .IsNot) (rC X.K (cmpD .nisn)) := by
  intro pins s σ H x y v u Q I rx ry ⟨P, d1, d2, k, h1, h2, e, q⟩
  cases d2 <;> simp only [cmpD, reduceCtorEq] at e
  cases e
  refine op_notN pins s σ H x y v u Q I rx ry ⟨h2.non, ?_⟩
  rw [h1.isNon]
  cases d1 <;> exact q
theorem any_pd {n : Nat} {a : D} (sa : shal (n + 1) a = true) : ∀ {ds : List D}, ds.all (shal n) = true → ((pdL ds).any fun z => PyData.eqv z (pd a)) = ds.any fun z => peq z a
  | [], _ => by simp [pdL]
  | d :: ds, s => by
    have up : ∀ (m : Nat) (d : D), shal m d = true → shal (m + 1) d = true := shal_up
    rw [pdL, List.any_cons, List.any_cons, peq_eqv (n + 1) d a (up n d (all_eq s).1) sa, any_pd sa (all_eq s).2]
where
  shal_up : ∀ (m : Nat) (d : D), shal m d = true → shal (m + 1) d = true
  | m, .non, h => by simp [shal]
  | m, .bl _, h => by simp [shal]
  | m, .int _, h => by simp [shal]
  | m, .str _, h => by cases m <;> simpa [shal] using h
  | 0, .tup ds, h => by simp [shal] at h
  | m + 1, .tup ds, h => by
    simp only [shal, List.all_eq_true] at h ⊢
    exact fun d hd => shal_up m d (h d hd)
  | 0, .lst ds, h => by simp [shal] at h
  | m + 1, .lst ds, h => by
    simp only [shal, List.all_eq_true] at h ⊢
    exact fun d hd => shal_up m d (h d hd)
  | m, .dct _, h => by cases m <;> simp [shal] at h
theorem op_inC (hu : X.A.units + 65 < cLine) : OpR X (compareOp .In) (rC X.K (cmpD .isin)) := by
  intro pins s σ H x y v u Q I rx ry ⟨P, d1, d2, k, h1, h2, e, q⟩
  cases d2 <;> simp only [cmpD, inD, reduceCtorEq] at e
  · split at e <;> cases e
    rename_i hf
    obtain ⟨f1, f2⟩ := Bool.and_eq_true_iff.1 hf
    obtain ⟨a, vs, ea, r, l⟩ := h2.tup
    refine op_in_seq pins s σ H x y v u Q I rx ry ⟨a, vs, ea, .inr r, flat_V f1 (h1.rp_flat f1), flat_all f2 l, ?_⟩
    rw [flat_in f1 (h1.rp_flat f1) f2 l]; exact q
  · split at e
    · cases e
      rename_i hf
      obtain ⟨f1, f2⟩ := Bool.and_eq_true_iff.1 hf
      obtain ⟨a, vs, ea, r, l⟩ := h2.lst
      refine op_in_seq pins s σ H x y v u Q I rx ry ⟨a, vs, ea, .inl (.inl r), flat_V f1 (h1.rp_flat f1), flat_all f2 l, ?_⟩
      rw [flat_in f1 (h1.rp_flat f1) f2 l]; exact q
    · split at e <;> cases e
      rename_i ds _ hs
      obtain ⟨s1, s2⟩ := Bool.and_eq_true_iff.1 hs
      have s3 : shal 8 (.lst ds) = true := by simp only [shal]; exact s2
      have hd := h2.dp s3
      simp only [pd] at hd
      have sh := shal_shaped s3 (by omega)
      simp only [pd] at sh
      refine op_inD hu pins s σ H x y v u Q I rx ry ⟨_, _, h1.dp s1, hd, shal_shaped s1 (by omega), sh, ?_⟩
      rw [any_pd s1 s2]; exact q
theorem op_notinC (hu : X.A.units + 65 < cLine) : OpR X (compareOp .NotIn) (rC X.K (cmpD .notin)) := by
  intro pins s σ H x y v u Q I rx ry ⟨P, d1, d2, k, h1, h2, e, q⟩
  cases d2 <;> simp only [cmpD, inD, reduceCtorEq, Option.map_none] at e
  · split at e <;> cases e
    rename_i hf
    obtain ⟨f1, f2⟩ := Bool.and_eq_true_iff.1 hf
    obtain ⟨a, vs, ea, r, l⟩ := h2.tup
    refine op_notIn_seq pins s σ H x y v u Q I rx ry ⟨a, vs, ea, .inr r, flat_V f1 (h1.rp_flat f1), flat_all f2 l, ?_⟩
    rw [flat_in f1 (h1.rp_flat f1) f2 l]; exact q
  · split at e
    · cases e
      rename_i hf
      obtain ⟨f1, f2⟩ := Bool.and_eq_true_iff.1 hf
      obtain ⟨a, vs, ea, r, l⟩ := h2.lst
      refine op_notIn_seq pins s σ H x y v u Q I rx ry ⟨a, vs, ea, .inl (.inl r), flat_V f1 (h1.rp_flat f1), flat_all f2 l, ?_⟩
      rw [flat_in f1 (h1.rp_flat f1) f2 l]; exact q
    · split at e <;> cases e
      rename_i ds _ hs
      obtain ⟨s1, s2⟩ := Bool.and_eq_true_iff.1 hs
      have s3 : shal 8 (.lst ds) = true := by simp only [shal]; exact s2
      have hd := h2.dp s3
      simp only [pd] at hd
      have sh := shal_shaped s3 (by omega)
      simp only [pd] at sh
      refine op_notInD hu pins s σ H x y v u Q I rx ry ⟨_, _, h1.dp s1, hd, shal_shaped s1 (by omega), sh, ?_⟩
      rw [any_pd s1 s2]; exact q
theorem op_cmpC (hu : X.A.units + 65 < cLine) (o : COp) : OpR X (compareOp (opC o)) (rC X.K (cmpD o)) := by
  cases o
  · exact op_eqC hu
  · exact op_neC hu
  · exact op_ltC hu
  · exact op_leC
  · exact op_gtC
  · exact op_geC
  · exact op_isC
  · exact op_nisC
  · exact op_inC hu
  · exact op_notinC hu
theorem rC_op2 (o : COp) : Op2 K (rC K (cmpD o)) (cmpV o) := by
  intro P H x y d1 d2 o' d Q h1 h2 e q
  simp only [cmpV, Option.map_eq_some_iff] at e
  obtain ⟨k, e1, e2⟩ := e
  cases e2
  exact ⟨P, d1, d2, k, h1, h2, e1, q _ _ (Grow.refl H) newB⟩
theorem un_negD : UnR X (unaryOp .USub) (rD1 X.K negD) := by
  rintro pins s σ H x v Q I rx ⟨P, d1, o, d, h1, e, q⟩
  cases d1 <;> simp only [negD, reduceCtorEq] at e
  cases e
  exact un_neg pins s σ H x v Q I rx ⟨_, h1.int, q _ _ (Grow.refl H) newI⟩
end
end VS
end

section
set_option autoImplicit false
set_option linter.all false
/-! VBase: constants, names, tests. -/
namespace VS
open PySem PySem.Spec PyProof.Rows L2

theorem R.bind_assoc {α β γ : Type} (m : R α) (f : α → Rho → R β) (g : β → Rho → R γ) : (m.bind f).bind g = m.bind fun a r => (f a r).bind g := by
  cases m <;> rfl
theorem R.bind_ok {α : Type} (m : R α) : (m.bind fun a r => .ok a r) = m := by
  cases m <;> rfl
section
variable (C : RC)
def tT (W : WX) (ev : Rho → R Bool) : TT := fun σ H Q => ∃ Z ρ, Rel C Z ρ σ H ∧ match ev ρ with
  | .ok k ρ' => ∀ H', XPost C Z ρ σ H ρ' H' → Q k H'
  | .ex c ρ' => ∀ H', XPost C Z ρ σ H ρ' H' → W (C.cv c) none σ H'
  | .no => False
/-- THE JUDGEMENT of tests -/
def SB (X : Cx) (e : Expr) (ev : Rho → R Bool) : Prop := ∀ W, Takes X W → PT X e (tT C W ev)
end
theorem PT.imp {X : Cx} {e : Expr} {t t' : TT} (h : PT X e t) (i : ∀ σ H Q, t' σ H Q → t σ H Q) : PT X e t' := ⟨fun pins s σ H Q I q => h.run pins s σ H Q I (i σ H Q q)⟩
section
variable {C : RC} {X : Cx} {W : WX} {α : Type} {Z : Addr → Prop} {ρ : Rho} {σ : L2.St} {H : Hp}
/-- one more value -/
theorem Mid.fin {Z' : Addr → Prop} {ρ' : Rho} {H' : Hp} (a : Mid C Z ρ σ H Z' ρ' H') : XPost C Z ρ σ H ρ' H' := ⟨a.fr, a.mono, a.rel.weak a.ext.1⟩
theorem XPost.mid {ρ' : Rho} {H' : Hp} (a : XPost C Z ρ σ H ρ' H') : Mid C Z ρ σ H Z ρ' H' := ⟨a.fr, a.mono, .refl _ _, a.rel⟩
/-- what is left behind a test -/
def LeftB (C : RC) (W : WX) (Z : Addr → Prop) (ρ : Rho) (σ : L2.St) (H : Hp) (m : R Bool) (Q : Bool → Hp → Prop) : Prop := match m with
  | .ok k ρ' => ∀ H', XPost C Z ρ σ H ρ' H' → Q k H'
  | .ex c ρ' => ∀ H', XPost C Z ρ σ H ρ' H' → W (C.cv c) none σ H'
  | .no => False
/-- one more test -/
theorem Left.tst {G : (Addr → Prop) → Rho → L2.St → Hp → Rho → α → V → Hp → Prop} {Z1 : Addr → Prop} {ρ1 : Rho} {H1 : Hp} {Q : VK} {ev : Rho → R Bool} {f : Bool → Rho → R α} (a : Mid C Z ρ σ H Z1 ρ1 H1) (h : Left C W G Z ρ σ H ((ev ρ1).bind f) Q) {R' : Bool → Hp → Prop}
    (k : ∀ b ρ2 H2, Mid C Z ρ σ H Z1 ρ2 H2 → Mid C Z1 ρ1 σ H1 Z1 ρ2 H2 → Left C W G Z ρ σ H (f b ρ2) Q → R' b H2) : tT C W ev σ H1 R' := by
  refine ⟨Z1, ρ1, a.rel, ?_⟩
  cases e : ev ρ1 with
  | no => rw [e] at h; exact h
  | ex c ρ2 =>
    rw [e] at h
    intro H2 p
    exact h H2 (a.x p)
  | ok o ρ2 =>
    rw [e] at h
    intro H2 p
    exact k o ρ2 H2 (a.trans p.mid) p.mid h
theorem LeftB.tst {Z1 : Addr → Prop} {ρ1 : Rho} {H1 : Hp} {Q : Bool → Hp → Prop} {ev : Rho → R Bool} {f : Bool → Rho → R Bool} (a : Mid C Z ρ σ H Z1 ρ1 H1) (h : LeftB C W Z ρ σ H ((ev ρ1).bind f) Q) {R' : Bool → Hp → Prop}
    (k : ∀ b ρ2 H2, Mid C Z ρ σ H Z1 ρ2 H2 → Mid C Z1 ρ1 σ H1 Z1 ρ2 H2 → LeftB C W Z ρ σ H (f b ρ2) Q → R' b H2) : tT C W ev σ H1 R' := by
  refine ⟨Z1, ρ1, a.rel, ?_⟩
  cases e : ev ρ1 with
  | no => rw [e] at h; exact h
  | ex c ρ2 =>
    rw [e] at h
    intro H2 p
    exact h H2 (a.x p)
  | ok o ρ2 =>
    rw [e] at h
    intro H2 p
    exact k o ρ2 H2 (a.trans p.mid) p.mid h
theorem LeftB.opd {Z1 : Addr → Prop} {ρ1 : Rho} {H1 : Hp} {Q : Bool → Hp → Prop} {ev : Rho → R Opd} {f : Opd → Rho → R Bool} (a : Mid C Z ρ σ H Z1 ρ1 H1) (h : LeftB C W Z ρ σ H ((ev ρ1).bind f) Q) {R' : VK}
    (k : ∀ o ρ2 Z2 x H2, Mid C Z ρ σ H Z2 ρ2 H2 → Mid C Z1 ρ1 σ H1 Z2 ρ2 H2 → OpdR C Z2 ρ2 σ H2 o x → LeftB C W Z ρ σ H (f o ρ2) Q → R' x H2) : tX C W ev (GO C) σ H1 R' := by
  refine ⟨Z1, ρ1, a.rel, ?_⟩
  cases e : ev ρ1 with
  | no => rw [e] at h; exact h
  | ex c ρ2 =>
    rw [e] at h
    intro H2 p
    exact h H2 (a.x p)
  | ok o ρ2 =>
    rw [e] at h
    rintro x H2 ⟨Z2, p⟩
    exact k o ρ2 Z2 x H2 (a.trans p.mid) p.mid p.opd h
theorem LeftB.done {ρ' : Rho} {Z' : Addr → Prop} {H' : Hp} {Q : Bool → Hp → Prop} {k : Bool} (a : Mid C Z ρ σ H Z' ρ' H') (h : LeftB C W Z ρ σ H (.ok k ρ') Q) : Q k H' := h H' a.fin
/-- the truth of plain data -/
theorem tru_rp {K : PySem.W.Frag} {P : Addr → Prop} {d : D} {x : V} {k : Bool} (h : RpT K P H d x) (e : truO d = some k) : TruV K x H k := by
  cases d with
  | non => cases e; rw [h.non]; rfl
  | bl b => cases e; rw [h.bl]; rfl
  | int i => cases e; rw [h.int]; rfl
  | str s =>
    simp only [truO] at e
    split at e <;> cases e
    rename_i z
    rw [h.str]
    refine ⟨by rw [tx_length]; exact sizeLine_few z, ?_⟩
    rw [tx_length]
    cases s <;> simp
    omega
  | tup ds =>
    cases e
    obtain ⟨a, vs, rfl, r, l⟩ := h.tup
    refine .inr (.inl ⟨vs, r, ?_⟩)
    simp only [truD]
    have := l.nil_iff
    cases ds <;> cases vs <;> simp_all
  | lst ds =>
    cases e
    obtain ⟨a, vs, rfl, r, l⟩ := h.lst
    refine .inl ⟨vs, .inl r, ?_⟩
    simp only [truD]
    have := l.nil_iff
    cases ds <;> cases vs <;> simp_all
  | dct kvs => simp [truO] at e
/-- tst, from the operand -/
theorem tst_opd (e : Ex) (m : Rho → R (Ow × D)) : tst e m = fun r => (opd e m r).bind fun o r1 => op1 o (fun d => truO d) r1 := by
  funext r
  unfold tst trans
  rw [R.bind_assoc]
  congr 1
  funext o r1
  unfold op1
  cases res r1 o <;> rfl
theorem sb_truth {a : Expr} {eva : Rho → R Opd} (hk : C.K = X.K) (he : ∀ whole, isTrue a X.env whole = (do let v ← whole; standAt a.pos; holding [v] (truthy v))) (sa : SO C X a eva) : SB C X a (fun r => (eva r).bind fun o r1 => op1 o (fun d => truO d) r1) := by
  intro W tk
  refine PT.imp (pt_truth (sa W tk) he) ?_
  rintro σ H Q ⟨Z, ρ, r0, h⟩
  refine LeftB.opd (W := W) (Z := Z) (ρ := ρ) (H := H) (Q := Q) (f := fun o r1 => op1 o (fun d => truO d) r1) (.start r0) h fun o1 ρ1 Z1 x H1 a1 b1 q1 h1 => ?_
  unfold VS.op1 at h1
  cases e1 : res ρ1 o1 with
  | none => rw [e1] at h1; exact h1.elim
  | some d1 =>
    rw [e1] at h1
    dsimp only at h1
    cases e2 : truO d1 with
    | none => rw [e2] at h1; exact h1.elim
    | some k =>
      rw [e2] at h1
      exact ⟨k, hk ▸ tru_rp (a1.rel.use a1.ext.1 q1 e1) e2, LeftB.done a1 h1⟩
/-- a test that does less -/
theorem SB.le {e : Expr} {ev ev' : Rho → R Bool} (h : SB C X e ev) (l : ∀ r, ev' r = .no ∨ ev' r = ev r) : SB C X e ev' := by
  intro W tk
  refine PT.imp (h W tk) ?_
  rintro σ H Q ⟨Z, ρ, r0, h⟩
  refine ⟨Z, ρ, r0, ?_⟩
  rcases l ρ with l | l
  · rw [l] at h; exact h.elim
  · rw [l] at h; exact h
theorem SE.le {e : Expr} {ev ev' : Rho → R (Ow × D)} (h : SE C X e ev) (l : ∀ r, ev' r = .no ∨ ev' r = ev r) : SE C X e ev' := by
  intro W tk
  refine PE.imp (h W tk) ?_
  rintro σ H Q ⟨Z, ρ, r0, h⟩
  refine ⟨Z, ρ, r0, ?_⟩
  rcases l ρ with l | l
  · rw [l] at h; exact h.elim
  · rw [l] at h; exact h
/-- a comparison as a test -/
theorem sb_cmp {a b : Expr} {pos : Pos} {op : CmpOp} {g : D → D → Option Bool} {eva evb : Rho → R Opd} (ho : OpR X (compareOp op) (rC X.K g)) (hk : C.K = X.K) (hm : behindInMarks op b = false) (sa : SO C X a eva) (sb : SO C X b evb) :
    SB C X (.Compare a [op] [b] pos) (fun r => (eva r).bind fun x r1 => (evb r1).bind fun y r2 => op2 x y g r2) := by
  intro W tk
  refine PT.imp (pt_cmpR ho (sa W tk) (sb W tk) hm) ?_
  rintro σ H Q ⟨Z, ρ, r0, h⟩
  refine LeftB.opd (W := W) (Z := Z) (ρ := ρ) (H := H) (Q := Q) (f := fun x r1 => (evb r1).bind fun y r2 => op2 x y g r2) (.start r0) h fun o1 ρ1 Z1 x H1 a1 b1 q1 h1 => ?_
  refine LeftB.opd (f := fun y r2 => op2 o1 y g r2) a1 h1 fun o2 ρ2 Z2 y H2 a2 b2 q2 h2 => ?_
  have q1' := b2.stay a1.rel q1
  unfold VS.op2 at h2
  cases e1 : res ρ2 o1 with
  | none => rw [e1] at h2; exact h2.elim
  | some d1 =>
    cases e2 : res ρ2 o2 with
    | none => rw [e1, e2] at h2; exact h2.elim
    | some d2 =>
      rw [e1, e2] at h2
      dsimp only at h2
      cases e3 : g d1 d2 with
      | none => rw [e3] at h2; exact h2.elim
      | some k =>
        rw [e3] at h2
        rw [← hk]
        exact ⟨_, d1, d2, k, a2.rel.use a2.ext.1 q1' e1, a2.rel.use a2.ext.1 q2 e2, e3, k, rfl, LeftB.done a2 h2⟩
theorem sb_not {a : Expr} {pos : Pos} {eva : Rho → R Bool} (sa : SB C X a eva) : SB C X (.UnaryOp .Not a pos) (fun r => (eva r).bind fun k r1 => .ok (!k) r1) := by
  intro W tk
  refine PT.imp (pt_not (sa W tk)) ?_
  rintro σ H Q ⟨Z, ρ, r0, h⟩
  exact LeftB.tst (W := W) (f := fun k r1 => .ok (!k) r1) (.start r0) h fun b ρ2 H2 a1 b1 h1 => LeftB.done a1 h1
/-- and, or in tests -/
def bAnd : List (Rho → R Bool) → Rho → R Bool
  | [], r => .ok true r
  | m :: ms, r => (m r).bind fun k r1 => if k then bAnd ms r1 else .ok false r1
def bOr : List (Rho → R Bool) → Rho → R Bool
  | [], r => .ok false r
  | m :: ms, r => (m r).bind fun k r1 => if k then .ok true r1 else bOr ms r1
theorem PW.imp {X : Cx} {e : Expr} {t t' : TT} (h : PW X e t) (i : ∀ σ H Q, t' σ H Q → t σ H Q) : PW X e t' := ⟨fun wh pins s σ H Q I q => h.run wh pins s σ H Q I (i σ H Q q)⟩
theorem sw_and {pos : Pos} : ∀ {es : List Expr} {ms : List (Rho → R Bool)}, Paired (fun e m => SB C X e m) es ms → es ≠ [] → ∀ W, Takes X W → PW X (.BoolOp .And es pos) (tT C W (bAnd ms))
  | _, _, .nil, n => absurd rfl n
  | [a], [m], .cons h .nil, _ => fun W tk => by
    refine PW.imp (pw_and1 (h W tk)) ?_
    rintro σ H Q ⟨Z, ρ, r0, h⟩
    refine LeftB.tst (W := W) (f := fun k r1 => if k then bAnd [] r1 else .ok false r1) (.start r0) h fun b ρ2 H2 a1 b1 h1 => ?_
    cases b <;> exact LeftB.done a1 h1
  | a :: b :: es, m :: m' :: ms, .cons h t, _ => fun W tk => by
    refine PW.imp (pw_and (h W tk) (sw_and t (List.cons_ne_nil _ _) W tk)) ?_
    rintro σ H Q ⟨Z, ρ, r0, h⟩
    refine LeftB.tst (W := W) (f := fun k r1 => if k then bAnd (m' :: ms) r1 else .ok false r1) (.start r0) h fun k ρ2 H2 a1 b1 h1 => ?_
    cases k with
    | false => exact LeftB.done a1 h1
    | true => exact LeftB.tst (W := W) (f := fun k r1 => .ok k r1) a1 (by rw [R.bind_ok]; exact h1) fun k ρ3 H3 a2 b2 h2 => LeftB.done a2 h2
theorem sw_or {pos : Pos} : ∀ {es : List Expr} {ms : List (Rho → R Bool)}, Paired (fun e m => SB C X e m) es ms → es ≠ [] → ∀ W, Takes X W → PW X (.BoolOp .Or es pos) (tT C W (bOr ms))
  | _, _, .nil, n => absurd rfl n
  | [a], [m], .cons h .nil, _ => fun W tk => by
    refine PW.imp (pw_or1 (h W tk)) ?_
    rintro σ H Q ⟨Z, ρ, r0, h⟩
    refine LeftB.tst (W := W) (f := fun k r1 => if k then .ok true r1 else bOr [] r1) (.start r0) h fun b ρ2 H2 a1 b1 h1 => ?_
    cases b <;> exact LeftB.done a1 h1
  | a :: b :: es, m :: m' :: ms, .cons h t, _ => fun W tk => by
    refine PW.imp (pw_or (h W tk) (sw_or t (List.cons_ne_nil _ _) W tk)) ?_
    rintro σ H Q ⟨Z, ρ, r0, h⟩
    refine LeftB.tst (W := W) (f := fun k r1 => if k then .ok true r1 else bOr (m' :: ms) r1) (.start r0) h fun k ρ2 H2 a1 b1 h1 => ?_
    cases k with
    | true => exact LeftB.done a1 h1
    | false => exact LeftB.tst (W := W) (f := fun k r1 => .ok k r1) a1 (by rw [R.bind_ok]; exact h1) fun k ρ3 H3 a2 b2 h2 => LeftB.done a2 h2
theorem sb_and {pos : Pos} {es : List Expr} {ms : List (Rho → R Bool)} (h : Paired (fun e m => SB C X e m) es ms) (n : es ≠ []) : SB C X (.BoolOp .And es pos) (bAnd ms) := fun W tk => (sw_and h n W tk).pt
theorem sb_or {pos : Pos} {es : List Expr} {ms : List (Rho → R Bool)} (h : Paired (fun e m => SB C X e m) es ms) (n : es ≠ []) : SB C X (.BoolOp .Or es pos) (bOr ms) := fun W tk => (sw_or h n W tk).pt
end
end VS
end

section
set_option autoImplicit false
set_option linter.all false
/-! VBase2: names, rows of values, displays. -/
namespace VS
open PySem PySem.Spec PyProof.Rows L2

section
variable {C : RC} {X : Cx} {W : WX} {α : Type} {Z : Addr → Prop} {ρ ρ' : Rho} {σ : L2.St} {H H' : Hp} {K : PySem.W.Frag} {P P' : Addr → Prop} {d : D} {a : Addr} {v : V} {o : Ow}
theorem Top.rp (h : Top K P H d a) (pa : P' a) (hp : ∀ b, P b → P' b) : Rp K P' H d (.ref a) := by
  have k : Keep P H H := fun _ _ e _ => e
  cases d <;> simp only [Top, Rp] at h ⊢
  · obtain ⟨vs, e, q⟩ := h
    exact ⟨a, vs, rfl, pa, .inl e, RpL.keep k (fun b _ => hp b) _ _ q⟩
  · obtain ⟨vs, u, e, dq, q⟩ := h
    exact ⟨a, vs, u, rfl, pa, .inl e, dq, RpK.keep k (fun b _ => hp b) _ _ q⟩
theorem TopR.rp (h : TopR K P H d a) (pa : P' a) (hp : ∀ b, P b → P' b) : Rp K P' H d (.ref a) := by
  have k : Keep P H H := fun _ _ e _ => e
  cases d <;> simp only [TopR, Rp] at h ⊢
  · obtain ⟨vs, e, q⟩ := h
    exact ⟨a, vs, rfl, pa, e, RpL.keep k (fun b _ => hp b) _ _ q⟩
  · obtain ⟨vs, u, e, dq, q⟩ := h
    exact ⟨a, vs, u, rfl, pa, e, dq, RpK.keep k (fun b _ => hp b) _ _ q⟩
/-- a value of which nobody asks whose it is -/
theorem EPost.val (r : Rel C Z ρ σ H) (h : EPost C Z ρ σ H ρ' o d v H') : Rel C Z ρ' σ H' ∧ Rp C.K (Av Z ρ' σ) H' d v := by
  have q := h.res
  cases o with
  | val => exact q
  | own =>
    obtain ⟨a, rfl, na, rl, t⟩ := q
    refine ⟨rl.weak fun b z => .inl z, t.rp ⟨r.noneZ na, fun w => rl.privZ w (.inr rfl)⟩ fun b w => ⟨fun z => w.1 (.inl z), w.2⟩⟩
  | one =>
    obtain ⟨a, b, d1, rfl, rfl, na, nb, ne, ea, rl, t⟩ := q
    refine ⟨rl.weak fun b z => .inl (.inl z), ?_⟩
    have hb : Av Z ρ' σ b := ⟨r.noneZ nb, fun w => rl.privZ w (.inr rfl)⟩
    have ha : Av Z ρ' σ a := ⟨r.noneZ na, fun w => rl.privZ w (.inl (.inr rfl))⟩
    simp only [Rp, RpL]
    exact ⟨a, _, rfl, ha, .inl ea, _, _, rfl, t.rp hb fun b w => ⟨fun z => w.1 (.inl (.inl z)), w.2⟩, rfl⟩
theorem EPost.x (r : Rel C Z ρ σ H) (h : EPost C Z ρ σ H ρ' o d v H') : XPost C Z ρ σ H ρ' H' := ⟨h.fr, h.mono, (h.val r).1⟩
/-- .. as an operand -/
theorem EPost.opd (r : Rel C Z ρ σ H) (h : EPost C Z ρ σ H ρ' o d v H') : GO C Z ρ σ H ρ' (.tmp d) v H' := by
  have q := h.res
  cases o with
  | val => exact ⟨Z, h.fr, h.mono, .refl _ _, q.1, .inl q.2⟩
  | own =>
    obtain ⟨a, rfl, na, rl, t⟩ := q
    exact ⟨zAnd Z a, h.fr, h.mono, .and _ na, rl, .inr ⟨a, rfl, .inr rfl, t.r⟩⟩
  | one =>
    have w := h.val r
    exact ⟨Z, h.fr, h.mono, .refl _ _, w.1, .inl w.2⟩
theorem opd_var {i : Nat} {m : Rho → R (Ow × D)} : opd (.var i) m = fun r => match getS r i with
    | some _ => .ok (.slot i) r
    | none => .no := rfl
theorem so_of {e : Expr} {ev : Rho → R (Ow × D)} (h : SE C X e ev) : SO C X e (fun r => (ev r).bind fun v r' => .ok (.tmp v.2) r') := by
  intro W tk
  refine PE.imp (h W tk) ?_
  rintro σ H Q ⟨Z, ρ, r0, h⟩
  refine ⟨Z, ρ, r0, ?_⟩
  change Left C W (GO C) Z ρ σ H ((ev ρ).bind fun v r' => .ok (.tmp v.2) r') Q at h
  cases e1 : ev ρ with
  | no => rw [e1] at h; exact h
  | ex c ρ' => rw [e1] at h; exact h
  | ok v ρ' =>
    rw [e1] at h
    intro x H' p
    exact h x H' (p.opd r0)
theorem so_var {i : Nat} {x : PySem.Str} {pos : Pos} {m : Rho → R (Ow × D)} (pv : PE X (.Name x pos) (tVar i)) : SO C X (.Name x pos) (opd (.var i) m) := by
  intro W tk
  refine PE.imp pv ?_
  rintro σ H Q ⟨Z, ρ, r0, h⟩
  rw [opd_var] at h
  cases e : getS ρ i with
  | none => simp only [e] at h
  | some s =>
    simp only [e] at h
    obtain ⟨w, e1, _⟩ := r0.look e
    exact ⟨w, e1, h w H ⟨Z, Fr.refl _ _ _, Mono.refl _, .refl _ _, r0, e1, s, e⟩⟩
/-- a slot is a plain value from now on -/
theorem Rel.toVal (r : Rel C Z ρ σ H) {i : Nat} {s : Slot} (e : getS ρ i = some s) : Rel C Z (putS ρ i { s with f := .val }) σ H ∧ Mono ρ (putS ρ i { s with f := .val }) ∧ ∃ x, σ[i]? = some (some x) ∧ Rp C.K (Av Z (putS ρ i { s with f := .val }) σ) H s.d x := by
  obtain ⟨e0, nf⟩ := getS_some e
  have li : i < ρ.length := by
    rcases Nat.lt_or_ge i ρ.length with h | h
    · exact h
    · rw [List.getElem?_eq_none h] at e0; cases e0
  have at' : ∀ j (t : Slot), (putS ρ i { s with f := .val })[j]? = some (some t) → (j = i ∧ t = { s with f := .val }) ∨ (j ≠ i ∧ ρ[j]? = some (some t)) := fun j t h => by
    unfold putS at h
    by_cases hj : j = i
    · subst hj
      rw [List.getElem?_set_self li] at h
      cases h; exact .inl ⟨rfl, rfl⟩
    · rw [List.getElem?_set_ne (Ne.symm hj)] at h
      exact .inr ⟨hj, h⟩
  have m : Mono ρ (putS ρ i { s with f := .val }) := by
    refine ⟨by simp [putS], fun j t h => ?_, fun j t h => ?_⟩
    · rcases at' j t h with ⟨rfl, rfl⟩ | ⟨_, h⟩
      · exact ⟨s, e0, rfl, .inr ⟨rfl, nf⟩, fun _ => rfl⟩
      · exact ⟨t, h, rfl, .inl rfl, fun _ => rfl⟩
    · by_cases hj : j = i
      · subst hj; exact ⟨_, List.getElem?_set_self li⟩
      · exact ⟨t, by unfold putS; rw [List.getElem?_set_ne (Ne.symm hj)]; exact h⟩
  have k : ∀ P, Keep P H H := fun _ _ _ e _ => e
  have av : ∀ a, Av Z ρ σ a → Av Z (putS ρ i { s with f := .val }) σ a := fun a p => m.av p
  have it : ∃ x, σ[i]? = some (some x) ∧ Rp C.K (Av Z (putS ρ i { s with f := .val }) σ) H s.d x := by
    have free : ∀ a, σ[i]? = some (some (.ref a)) → (s.f = .own ∨ s.f = .lent) → ¬ Z a → Av Z (putS ρ i { s with f := .val }) σ a := fun a ea f nz => by
      refine ⟨nz, fun ⟨j, t, h1, h2, h3⟩ => ?_⟩
      rcases at' j t h1 with ⟨rfl, rfl⟩ | ⟨hj, h1⟩
      · rcases h2 with z | z <;> cases z
      · exact hj (r.apart i j s t a e0 h1 f h2 ea h3).symm
    cases f : s.f with
    | val =>
      obtain ⟨x, e1, q⟩ := r.val i s e0 f
      exact ⟨x, e1, Rp.keep (k _) (fun a _ => av a) _ _ q⟩
    | own =>
      obtain ⟨a, e1, nz, t⟩ := r.own i s e0 f
      exact ⟨_, e1, t.rp (free a e1 (.inl f) nz) av⟩
    | lent =>
      obtain ⟨a, e1, nz, t⟩ := r.lent i s e0 f
      exact ⟨_, e1, t.rp (free a e1 (.inr f) nz) av⟩
    | fns => exact absurd f nf
  refine ⟨⟨by rw [m.len]; exact r.len, r.tab, r.zd, fun j t h f => ?_, fun j t h f => ?_, fun j t h f => ?_, fun j t h f => ?_, fun j l t u b h1 h2 f1 f2 => ?_⟩, m, it⟩
  · rcases at' j t h with ⟨rfl, rfl⟩ | ⟨_, h⟩
    · exact it
    · obtain ⟨x, e1, q⟩ := r.val j t h f
      exact ⟨x, e1, Rp.keep (k _) (fun a _ => av a) _ _ q⟩
  · rcases at' j t h with ⟨rfl, rfl⟩ | ⟨_, h⟩
    · cases f
    · obtain ⟨x, e1, n, q⟩ := r.own j t h f
      exact ⟨x, e1, n, Top.keep (k _) (fun a _ => av a) (fun _ e _ => e) q⟩
  · rcases at' j t h with ⟨rfl, rfl⟩ | ⟨_, h⟩
    · cases f
    · obtain ⟨x, e1, n, q⟩ := r.lent j t h f
      exact ⟨x, e1, n, TopR.keep (k _) (fun a _ => av a) (fun _ e _ => e) q⟩
  · rcases at' j t h with ⟨rfl, rfl⟩ | ⟨_, h⟩
    · cases f
    · obtain ⟨n, x, e1, e2, q, w⟩ := r.fns j t h f
      exact ⟨n, x, e1, e2, q, fun a ea => ⟨(w a ea).1, (w a ea).2.1, fun z => (w a ea).2.2 (m.priv z)⟩⟩
  · rcases at' j t h1 with ⟨rfl, rfl⟩ | ⟨_, h1⟩
    · rcases f1 with z | z <;> cases z
    · rcases at' l u h2 with ⟨rfl, rfl⟩ | ⟨_, h2⟩
      · rcases f2 with z | z <;> cases z
      · exact r.apart j l t u b h1 h2 f1 f2
theorem se_var {i : Nat} {x : PySem.Str} {pos : Pos} (pv : PE X (.Name x pos) (tVar i)) : SE C X (.Name x pos) (varE i) := by
  intro W tk
  refine PE.imp pv ?_
  rintro σ H Q ⟨Z, ρ, r0, h⟩
  unfold varE at h
  cases e : getS ρ i with
  | none => simp only [e] at h
  | some s =>
    simp only [e] at h
    obtain ⟨r1, m, w, e1, q⟩ := r0.toVal e
    exact ⟨w, e1, h w H ⟨Fr.refl _ _ _, m, r1, q⟩⟩
/-- constants -/
theorem se_val {e : Expr} {v : V} {d : D} (pv : PE X e (tC v)) (q : ∀ P H, Rp C.K P H d v) : SE C X e (fun r => .ok (.val, d) r) := by
  intro W tk
  refine PE.imp pv ?_
  rintro σ H Q ⟨Z, ρ, r0, h⟩
  exact h v H ⟨Fr.refl _ _ _, Mono.refl _, r0, q _ _⟩
theorem se_non {j pos} : SE C X (.Constant .none j pos) (fun r => .ok (.val, .non) r) := se_val pe_non fun _ _ => by simp only [Rp]
theorem se_bl {b j pos} : SE C X (.Constant (.bool b) j pos) (fun r => .ok (.val, .bl b) r) := se_val pe_bl fun _ _ => by simp only [Rp]
theorem se_int {i j pos} : SE C X (.Constant (.int i) j pos) (fun r => .ok (.val, .int i) r) := se_val pe_int fun _ _ => by simp only [Rp]
theorem se_str {s : List Nat} {j pos} : SE C X (.Constant (.str (tx s)) j pos) (fun r => .ok (.val, .str s) r) := se_val pe_str fun _ _ => by simp only [Rp]; rfl
/-! ### rows -/
def LeftL (C : RC) (W : WX) (G : (Addr → Prop) → Rho → L2.St → Hp → Rho → α → List V → Hp → Prop) (Z : Addr → Prop) (ρ : Rho) (σ : L2.St) (H : Hp) (m : R α) (Q : List V → Hp → Prop) : Prop := match m with
  | .ok v ρ' => ∀ x H', G Z ρ σ H ρ' v x H' → Q x H'
  | .ex c ρ' => ∀ H', XPost C Z ρ σ H ρ' H' → W (C.cv c) none σ H'
  | .no => False
theorem LeftL.opd {G : (Addr → Prop) → Rho → L2.St → Hp → Rho → α → List V → Hp → Prop} {Z1 : Addr → Prop} {ρ1 : Rho} {H1 : Hp} {Q : List V → Hp → Prop} {ev : Rho → R Opd} {f : Opd → Rho → R α} (a : Mid C Z ρ σ H Z1 ρ1 H1) (h : LeftL C W G Z ρ σ H ((ev ρ1).bind f) Q) {R' : VK}
    (k : ∀ o ρ2 Z2 x H2, Mid C Z ρ σ H Z2 ρ2 H2 → Mid C Z1 ρ1 σ H1 Z2 ρ2 H2 → OpdR C Z2 ρ2 σ H2 o x → LeftL C W G Z ρ σ H (f o ρ2) Q → R' x H2) : tX C W ev (GO C) σ H1 R' := by
  refine ⟨Z1, ρ1, a.rel, ?_⟩
  cases e : ev ρ1 with
  | no => rw [e] at h; exact h
  | ex c ρ2 =>
    rw [e] at h
    intro H2 p
    exact h H2 (a.x p)
  | ok o ρ2 =>
    rw [e] at h
    rintro x H2 ⟨Z2, p⟩
    exact k o ρ2 Z2 x H2 (a.trans p.mid) p.mid p.opd h
theorem LPost.mid {Z' : Addr → Prop} {os : List Opd} {xs : List V} (p : LPost C Z ρ σ H ρ' os xs H' Z') : Mid C Z ρ σ H Z' ρ' H' := ⟨p.fr, p.mono, p.ext, p.rel⟩
theorem LeftL.opds {β : Type} {G : (Addr → Prop) → Rho → L2.St → Hp → Rho → β → List V → Hp → Prop} {Z1 : Addr → Prop} {ρ1 : Rho} {H1 : Hp} {Q : List V → Hp → Prop} {ev : Rho → R (List Opd)} {f : List Opd → Rho → R β} (a : Mid C Z ρ σ H Z1 ρ1 H1) (h : LeftL C W G Z ρ σ H ((ev ρ1).bind f) Q) {R' : List V → Hp → Prop}
    (k : ∀ os ρ2 Z2 xs H2, Mid C Z ρ σ H Z2 ρ2 H2 → Mid C Z1 ρ1 σ H1 Z2 ρ2 H2 → OpdsR C Z2 ρ2 σ H2 os xs → LeftL C W G Z ρ σ H (f os ρ2) Q → R' xs H2) : tL C W ev (GL C) σ H1 R' := by
  refine ⟨Z1, ρ1, a.rel, ?_⟩
  cases e : ev ρ1 with
  | no => rw [e] at h; exact h
  | ex c ρ2 =>
    rw [e] at h
    intro H2 p
    exact h H2 (a.x p)
  | ok o ρ2 =>
    rw [e] at h
    rintro x H2 ⟨Z2, p⟩
    exact k o ρ2 Z2 x H2 (a.trans p.mid) p.mid p.opds h
theorem Left.opds {G : (Addr → Prop) → Rho → L2.St → Hp → Rho → α → V → Hp → Prop} {Z1 : Addr → Prop} {ρ1 : Rho} {H1 : Hp} {Q : VK} {ev : Rho → R (List Opd)} {f : List Opd → Rho → R α} (a : Mid C Z ρ σ H Z1 ρ1 H1) (h : Left C W G Z ρ σ H ((ev ρ1).bind f) Q) {R' : List V → Hp → Prop}
    (k : ∀ os ρ2 Z2 xs H2, Mid C Z ρ σ H Z2 ρ2 H2 → Mid C Z1 ρ1 σ H1 Z2 ρ2 H2 → OpdsR C Z2 ρ2 σ H2 os xs → Left C W G Z ρ σ H (f os ρ2) Q → R' xs H2) : tL C W ev (GL C) σ H1 R' := by
  refine ⟨Z1, ρ1, a.rel, ?_⟩
  cases e : ev ρ1 with
  | no => rw [e] at h; exact h
  | ex c ρ2 =>
    rw [e] at h
    intro H2 p
    exact h H2 (a.x p)
  | ok o ρ2 =>
    rw [e] at h
    rintro x H2 ⟨Z2, p⟩
    exact k o ρ2 Z2 x H2 (a.trans p.mid) p.mid p.opds h
theorem OpdsR.stay {Z1 Z2 : Addr → Prop} {ρ1 ρ2 : Rho} {H1 H2 : Hp} (r : Rel C Z1 ρ1 σ H1) (b : Mid C Z1 ρ1 σ H1 Z2 ρ2 H2) : ∀ {os : List Opd} {xs : List V}, OpdsR C Z1 ρ1 σ H1 os xs → OpdsR C Z2 ρ2 σ H2 os xs
  | [], xs, h => h
  | o :: os, xs, ⟨x, xs', e, q, t⟩ => ⟨x, xs', e, b.stay r q, OpdsR.stay r b t⟩
theorem st_nil : ST C X [] (fun r => .ok [] r) := by
  intro W tk
  refine PA.imp pa_nil ?_
  rintro σ H Q ⟨Z, ρ, r0, h⟩
  exact h [] H ⟨Z, Fr.refl _ _ _, Mono.refl _, .refl _ _, r0, rfl⟩
theorem st_cons {e : Expr} {es : List Expr} {m : Rho → R Opd} {ms : Rho → R (List Opd)} (hs : starEach (e :: es) X.env = (false, eval e X.env) :: starEach es X.env) (a : SO C X e m) (t : ST C X es ms) :
    ST C X (e :: es) (fun r => (m r).bind fun d r1 => (ms r1).bind fun ds r2 => .ok (d :: ds) r2) := by
  intro W tk
  refine PA.imp (pa_cons (a W tk) (t W tk) hs) ?_
  rintro σ H Q ⟨Z, ρ, r0, h⟩
  refine LeftL.opd (W := W) (G := GL C) (Z := Z) (ρ := ρ) (H := H) (Q := Q) (f := fun d r1 => (ms r1).bind fun ds r2 => .ok (d :: ds) r2) (.start r0) h fun o1 ρ1 Z1 x H1 a1 b1 q1 h1 => ?_
  refine LeftL.opds (f := fun ds r2 => .ok (o1 :: ds) r2) a1 h1 fun os ρ2 Z2 xs H2 a2 b2 q2 h2 => ?_
  exact h2 _ _ ⟨Z2, a2.fr, a2.mono, a2.ext, a2.rel, x, xs, rfl, b2.stay a1.rel q1, q2⟩
theorem LeftL.val {β : Type} {G : (Addr → Prop) → Rho → L2.St → Hp → Rho → β → List V → Hp → Prop} {ρ1 : Rho} {H1 : Hp} {Q : List V → Hp → Prop} {ev : Rho → R (Ow × D)} {f : Ow × D → Rho → R β} (a : XPost C Z ρ σ H ρ1 H1) (h : LeftL C W G Z ρ σ H ((ev ρ1).bind f) Q) {R' : VK}
    (k : ∀ o ρ2 x H2, XPost C Z ρ σ H ρ2 H2 → EPost C Z ρ1 σ H1 ρ2 o.1 o.2 x H2 → LeftL C W G Z ρ σ H (f o ρ2) Q → R' x H2) : tX C W ev (GE C) σ H1 R' := by
  refine ⟨Z, ρ1, a.rel, ?_⟩
  cases e : ev ρ1 with
  | no => rw [e] at h; exact h
  | ex c ρ2 =>
    rw [e] at h
    intro H2 p
    exact h H2 (a.mid.x p)
  | ok o ρ2 =>
    rw [e] at h
    intro x H2 p
    exact k o ρ2 x H2 (a.mid.trans (p.x a.rel).mid).fin p h
theorem LeftL.vals {β : Type} {G : (Addr → Prop) → Rho → L2.St → Hp → Rho → β → List V → Hp → Prop} {ρ1 : Rho} {H1 : Hp} {Q : List V → Hp → Prop} {ev : Rho → R (List D)} {f : List D → Rho → R β} (a : XPost C Z ρ σ H ρ1 H1) (h : LeftL C W G Z ρ σ H ((ev ρ1).bind f) Q) {R' : List V → Hp → Prop}
    (k : ∀ ds ρ2 xs H2, XPost C Z ρ σ H ρ2 H2 → VPost C Z ρ1 σ H1 ρ2 ds xs H2 → LeftL C W G Z ρ σ H (f ds ρ2) Q → R' xs H2) : tL C W ev (VPost C) σ H1 R' := by
  refine ⟨Z, ρ1, a.rel, ?_⟩
  cases e : ev ρ1 with
  | no => rw [e] at h; exact h
  | ex c ρ2 =>
    rw [e] at h
    intro H2 p
    exact h H2 (a.mid.x p)
  | ok o ρ2 =>
    rw [e] at h
    intro x H2 p
    exact k o ρ2 x H2 (a.mid.trans (XPost.mid ⟨p.fr, p.mono, p.rel⟩)).fin p h
theorem XPost.start (r : Rel C Z ρ σ H) : XPost C Z ρ σ H ρ H := ⟨Fr.refl _ _ _, Mono.refl _, r⟩
theorem sl_nil : SL C X [] (fun r => .ok [] r) := by
  intro W tk
  refine PA.imp pa_nil ?_
  rintro σ H Q ⟨Z, ρ, r0, h⟩
  exact h [] H ⟨Fr.refl _ _ _, Mono.refl _, r0, RpL.nil⟩
theorem sl_cons {e : Expr} {es : List Expr} {m : Rho → R (Ow × D)} {ms : Rho → R (List D)} (hs : starEach (e :: es) X.env = (false, eval e X.env) :: starEach es X.env) (a : SE C X e m) (t : SL C X es ms) :
    SL C X (e :: es) (fun r => (m r).bind fun v r1 => (ms r1).bind fun ds r2 => .ok (v.2 :: ds) r2) := by
  intro W tk
  refine PA.imp (pa_cons (a W tk) (t W tk) hs) ?_
  rintro σ H Q ⟨Z, ρ, r0, h⟩
  refine LeftL.val (W := W) (G := VPost C) (Z := Z) (ρ := ρ) (H := H) (Q := Q) (f := fun v r1 => (ms r1).bind fun ds r2 => .ok (v.2 :: ds) r2) (.start r0) h fun o1 ρ1 x H1 a1 b1 h1 => ?_
  refine LeftL.vals (f := fun ds r2 => .ok (o1.2 :: ds) r2) a1 h1 fun ds ρ2 xs H2 a2 b2 h2 => ?_
  exact h2 _ _ ⟨a2.fr, a2.mono, a2.rel, .cons (a1.rel.rp b2.fr b2.mono (b1.val r0).2) b2.rp⟩
end
end VS
end

section
set_option autoImplicit false
set_option linter.all false
/-! VExp: displays, choices, chains. -/
namespace VS
open PySem PySem.Spec PyProof.Rows L2

section
variable {C : RC} {X : Cx} {W : WX} {α : Type} {Z : Addr → Prop} {ρ ρ' : Rho} {σ : L2.St} {H H' : Hp} {K : PySem.W.Frag} {P P' : Addr → Prop} {d : D} {a : Addr} {v : V} {o : Ow}
theorem Fr.none {H1 : Hp} (f : Fr ρ σ H H1) {b : Addr} (e : H1 b = none) : H b = none := by
  cases q : H b with
  | none => rfl
  | some u =>
    obtain ⟨o', q'⟩ := f.dom b u q
    rw [e] at q'; cases q'
theorem EPost.after {ρ1 : Rho} {H1 H2 : Hp} {ρ2 : Rho} (a : XPost C Z ρ σ H ρ1 H1) (b : EPost C Z ρ1 σ H1 ρ2 o d v H2) : EPost C Z ρ σ H ρ2 o d v H2 := by
  refine ⟨a.fr.trans a.mono b.fr, a.mono.trans b.mono, ?_⟩
  have q := b.res
  cases o with
  | val => exact q
  | own =>
    obtain ⟨p, e, na, r⟩ := q
    exact ⟨p, e, a.fr.none na, r⟩
  | one =>
    obtain ⟨p, b, d1, e, e2, na, nb, r⟩ := q
    exact ⟨p, b, d1, e, e2, a.fr.none na, a.fr.none nb, r⟩
/-- the last value -/
theorem Left.last {ρ1 : Rho} {Z1 : Addr → Prop} {H1 : Hp} {Q : VK} {ev : Rho → R (Ow × D)} (m : Mid C Z ρ σ H Z1 ρ1 H1) (h : Left C W (GE C) Z ρ σ H (ev ρ1) Q) : tX C W ev (GE C) σ H1 Q := by
  have a := m.fin
  refine ⟨Z, ρ1, a.rel, ?_⟩
  cases e : ev ρ1 with
  | no => rw [e] at h; exact h
  | ex c ρ2 =>
    rw [e] at h
    intro H2 p
    exact h H2 (a.mid.x p)
  | ok v ρ2 =>
    rw [e] at h
    intro x H2 p
    exact h x H2 (p.after a)
theorem Left.vals {G : (Addr → Prop) → Rho → L2.St → Hp → Rho → α → V → Hp → Prop} {ρ1 : Rho} {H1 : Hp} {Q : VK} {ev : Rho → R (List D)} {f : List D → Rho → R α} (a : XPost C Z ρ σ H ρ1 H1) (h : Left C W G Z ρ σ H ((ev ρ1).bind f) Q) {R' : List V → Hp → Prop}
    (k : ∀ ds ρ2 xs H2, XPost C Z ρ σ H ρ2 H2 → VPost C Z ρ1 σ H1 ρ2 ds xs H2 → Left C W G Z ρ σ H (f ds ρ2) Q → R' xs H2) : tL C W ev (VPost C) σ H1 R' := by
  refine ⟨Z, ρ1, a.rel, ?_⟩
  cases e : ev ρ1 with
  | no => rw [e] at h; exact h
  | ex c ρ2 =>
    rw [e] at h
    intro H2 p
    exact h H2 (a.mid.x p)
  | ok o ρ2 =>
    rw [e] at h
    intro x H2 p
    exact k o ρ2 x H2 (a.mid.trans (XPost.mid ⟨p.fr, p.mono, p.rel⟩)).fin p h
theorem SL.length {es : List Ex} {F : Fns} : ∀ {r r' : Rho} {ds : List D}, evL F es r = .ok ds r' → ds.length = es.length := by
  induction es with
  | nil => intro r r' ds h; simp only [evL] at h; cases h; rfl
  | cons e es ih =>
    intro r r' ds h
    simp only [evL] at h
    cases e1 : evE F e r with
    | no => rw [e1] at h; cases h
    | ex c r1 => rw [e1] at h; cases h
    | ok v r1 =>
      rw [e1] at h
      simp only [R.bind] at h
      cases e2 : evL F es r1 with
      | no => rw [e2] at h; cases h
      | ex c r2 => rw [e2] at h; cases h
      | ok ds2 r2 =>
        rw [e2] at h
        cases h
        simp [ih e2]
theorem se_tup {es : List Expr} {x1 pos} {m : Rho → R (List D)} (t : SL C X es m) (hl : ∀ r r' ds, m r = .ok ds r' → ds.length ≤ sizeLine) : SE C X (.Tuple es x1 pos) (fun r => (m r).bind fun ds r' => .ok (.val, .tup ds) r') := by
  intro W tk
  refine PE.imp (pe_tup (t W tk)) ?_
  rintro σ H Q ⟨Z, ρ, r0, h⟩
  refine ⟨Z, ρ, r0, ?_⟩
  change Left C W (GE C) Z ρ σ H ((m ρ).bind fun ds r' => .ok (.val, .tup ds) r') Q at h
  cases e : m ρ with
  | no => rw [e] at h; exact h
  | ex c ρ2 => rw [e] at h; exact h
  | ok ds ρ2 =>
    rw [e] at h
    intro xs H2 p
    refine ⟨by rw [p.rp.length]; exact hl _ _ _ e, fun q hq => ?_⟩
    exact h _ _ (EPost.of_new p.fr p.mono p.rel (Grow.new hq) (newTup p.rp hq))
theorem se_lst {es : List Expr} {pos} {m : Rho → R (List D)} (t : SL C X es m) (hl : ∀ r r' ds, m r = .ok ds r' → ds.length ≤ sizeLine) : SE C X (.List es pos) (fun r => (m r).bind fun ds r' => .ok (.own, .lst ds) r') := by
  intro W tk
  refine PE.imp (pe_lst (t W tk)) ?_
  rintro σ H Q ⟨Z, ρ, r0, h⟩
  refine ⟨Z, ρ, r0, ?_⟩
  change Left C W (GE C) Z ρ σ H ((m ρ).bind fun ds r' => .ok (.own, .lst ds) r') Q at h
  cases e : m ρ with
  | no => rw [e] at h; exact h
  | ex c ρ2 => rw [e] at h; exact h
  | ok ds ρ2 =>
    rw [e] at h
    intro xs H2 p
    refine ⟨by rw [p.rp.length]; exact hl _ _ _ e, fun q hq => ?_⟩
    exact h _ _ (EPost.of_new p.fr p.mono p.rel (Grow.new hq) (newLst p.rp hq))
theorem se_ife {c a b : Expr} {pos} {mc : Rho → R Bool} {ma mb : Rho → R (Ow × D)} (sc : SB C X c mc) (sa : SE C X a ma) (sb : SE C X b mb) :
    SE C X (.IfExp c a b pos) (fun r => (mc r).bind fun k r1 => if k then ma r1 else mb r1) := by
  intro W tk
  refine PE.imp (pe_ifExp (sc W tk) (sa W tk) (sb W tk)) ?_
  rintro σ H Q ⟨Z, ρ, r0, h⟩
  refine Left.tst (W := W) (G := GE C) (Z := Z) (ρ := ρ) (H := H) (Q := Q) (f := fun k r1 => if k then ma r1 else mb r1) (.start r0) h fun k ρ1 H1 a1 b1 h1 => ?_
  cases k <;> exact Left.last a1 h1
theorem se_not {a : Expr} {pos} {ma : Rho → R Opd} (hk : C.K = X.K) (sa : SO C X a ma) : SE C X (.UnaryOp .Not a pos) (fun r => (ma r).bind fun x r1 => op1 x notD r1) := by
  intro W tk
  refine PE.imp (pe_notT (sa W tk)) ?_
  rintro σ H Q ⟨Z, ρ, r0, h⟩
  refine Left.opd (W := W) (G := GE C) (Z := Z) (ρ := ρ) (H := H) (Q := Q) (f := fun x r1 => op1 x notD r1) (.start r0) h fun o1 ρ1 Z1 x H1 a1 b1 q1 h1 => ?_
  unfold VS.op1 at h1
  cases e1 : res ρ1 o1 with
  | none => rw [e1] at h1; exact h1.elim
  | some d1 =>
    rw [e1] at h1
    simp only [notD] at h1
    cases e2 : truO d1 with
    | none => rw [e2] at h1; exact h1.elim
    | some k =>
      rw [e2] at h1
      exact ⟨k, hk ▸ tru_rp (a1.rel.use a1.ext.1 q1 e1) e2, h1 _ _ (a1.done (Grow.refl _) newB)⟩
/-- and, or as values: of bools -/
def vAnd : List (Rho → R Opd) → Rho → R Bool
  | [], r => .ok true r
  | m :: ms, r => (m r).bind fun o r1 => match res r1 o with
    | some (.bl true) => vAnd ms r1
    | some (.bl false) => .ok false r1
    | _ => .no
def vOr : List (Rho → R Opd) → Rho → R Bool
  | [], r => .ok false r
  | m :: ms, r => (m r).bind fun o r1 => match res r1 o with
    | some (.bl true) => .ok true r1
    | some (.bl false) => vOr ms r1
    | _ => .no
def bV (m : Rho → R Bool) (r : Rho) : R (Ow × D) := (m r).bind fun k r' => .ok (.val, .bl k) r'
theorem se_andV {pos} : ∀ {es : List Expr} {ms : List (Rho → R Opd)}, Paired (fun e m => SO C X e m) es ms → es ≠ [] → SE C X (.BoolOp .And es pos) (bV (vAnd ms))
  | _, _, .nil, n => absurd rfl n
  | [a], [m], .cons h .nil, _ => fun W tk => by
    refine PE.imp (pe_one (h W tk)) ?_
    rintro σ H Q ⟨Z, ρ, r0, h⟩
    change Left C W (GE C) Z ρ σ H (((m ρ).bind _).bind _) Q at h
    rw [R.bind_assoc] at h
    refine Left.opd (W := W) (.start r0) h fun o1 ρ1 Z1 x H1 a1 b1 q1 h1 => ?_
    cases e1 : res ρ1 o1 with
    | none => rw [e1] at h1; exact h1.elim
    | some d1 =>
      rw [e1] at h1
      have u := a1.rel.use a1.ext.1 q1 e1
      cases d1 with
      | bl b =>
        rw [u.bl]
        cases b <;> exact h1 _ _ (a1.done (Grow.refl _) newB)
      | _ => exact h1.elim
  | a :: b :: es, m :: m' :: ms, .cons h t, _ => fun W tk => by
    refine PE.imp (pe_and (h W tk) (se_andV t (List.cons_ne_nil _ _) W tk)) ?_
    rintro σ H Q ⟨Z, ρ, r0, h⟩
    change Left C W (GE C) Z ρ σ H (((m ρ).bind _).bind _) Q at h
    rw [R.bind_assoc] at h
    refine Left.opd (W := W) (.start r0) h fun o1 ρ1 Z1 x H1 a1 b1 q1 h1 => ?_
    cases e1 : res ρ1 o1 with
    | none => rw [e1] at h1; exact h1.elim
    | some d1 =>
      rw [e1] at h1
      have u := a1.rel.use a1.ext.1 q1 e1
      cases d1 with
      | bl b =>
        refine ⟨b, u.bl, ?_⟩
        cases b
        · exact h1 _ _ (a1.done (Grow.refl _) newB)
        · exact Left.last a1 h1
      | _ => exact h1.elim
theorem se_orV {pos} : ∀ {es : List Expr} {ms : List (Rho → R Opd)}, Paired (fun e m => SO C X e m) es ms → es ≠ [] → SE C X (.BoolOp .Or es pos) (bV (vOr ms))
  | _, _, .nil, n => absurd rfl n
  | [a], [m], .cons h .nil, _ => fun W tk => by
    refine PE.imp (pe_one (h W tk)) ?_
    rintro σ H Q ⟨Z, ρ, r0, h⟩
    change Left C W (GE C) Z ρ σ H (((m ρ).bind _).bind _) Q at h
    rw [R.bind_assoc] at h
    refine Left.opd (W := W) (.start r0) h fun o1 ρ1 Z1 x H1 a1 b1 q1 h1 => ?_
    cases e1 : res ρ1 o1 with
    | none => rw [e1] at h1; exact h1.elim
    | some d1 =>
      rw [e1] at h1
      have u := a1.rel.use a1.ext.1 q1 e1
      cases d1 with
      | bl b =>
        rw [u.bl]
        cases b <;> exact h1 _ _ (a1.done (Grow.refl _) newB)
      | _ => exact h1.elim
  | a :: b :: es, m :: m' :: ms, .cons h t, _ => fun W tk => by
    refine PE.imp (pe_or (h W tk) (se_orV t (List.cons_ne_nil _ _) W tk)) ?_
    rintro σ H Q ⟨Z, ρ, r0, h⟩
    change Left C W (GE C) Z ρ σ H (((m ρ).bind _).bind _) Q at h
    rw [R.bind_assoc] at h
    refine Left.opd (W := W) (.start r0) h fun o1 ρ1 Z1 x H1 a1 b1 q1 h1 => ?_
    cases e1 : res ρ1 o1 with
    | none => rw [e1] at h1; exact h1.elim
    | some d1 =>
      rw [e1] at h1
      have u := a1.rel.use a1.ext.1 q1 e1
      cases d1 with
      | bl b =>
        refine ⟨b, u.bl, ?_⟩
        cases b
        · exact Left.last a1 h1
        · exact h1 _ _ (a1.done (Grow.refl _) newB)
      | _ => exact h1.elim
/-- a op b op' c -/
def evC2 (o o' : COp) (ma mb mc : Rho → R Opd) (r : Rho) : R (Ow × D) := (ma r).bind fun x r1 => (mb r1).bind fun y r2 => (op2 x y (cmpD o) r2).bind fun k r3 => if k then (mc r3).bind fun z r4 => op2 y z (cmpV o') r4 else .ok (.val, .bl false) r3
theorem imp_chain {o o' : COp} {ma mb mc : Rho → R Opd} {σ : L2.St} {H : Hp} {Q : VK} (hk : C.K = X.K) (h : tX C W (evC2 o o' ma mb mc) (GE C) σ H Q) : tChain (rC X.K (cmpD o)) (rC X.K (cmpD o')) (tX C W ma (GO C)) (tX C W mb (GO C)) (tX C W mc (GO C)) σ H Q := by
  obtain ⟨Z, ρ, r0, h⟩ := h
  rw [← hk]
  refine Left.opd (W := W) (G := GE C) (Z := Z) (ρ := ρ) (H := H) (Q := Q) (f := fun x r1 => (mb r1).bind fun y r2 => (op2 x y (cmpD o) r2).bind fun k r3 => if k then (mc r3).bind fun z r4 => op2 y z (cmpV o') r4 else .ok (.val, .bl false) r3) (.start r0) h fun o1 ρ1 Z1 x H1 a1 b1 q1 h1 => ?_
  refine Left.opd (f := fun y r2 => (op2 o1 y (cmpD o) r2).bind fun k r3 => if k then (mc r3).bind fun z r4 => op2 y z (cmpV o') r4 else .ok (.val, .bl false) r3) a1 h1 fun o2 ρ2 Z2 y H2 a2 b2 q2 h2 => ?_
  have q1' := b2.stay a1.rel q1
  unfold VS.op2 at h2
  cases e1 : res ρ2 o1 with
  | none => rw [e1] at h2; exact h2.elim
  | some d1 =>
    cases e2 : res ρ2 o2 with
    | none => rw [e1, e2] at h2; exact h2.elim
    | some d2 =>
      rw [e1, e2] at h2
      dsimp only at h2
      cases e3 : cmpD o d1 d2 with
      | none => rw [e3] at h2; exact h2.elim
      | some k =>
        rw [e3] at h2
        refine ⟨_, d1, d2, k, a2.rel.use a2.ext.1 q1' e1, a2.rel.use a2.ext.1 q2 e2, e3, k, rfl, ?_⟩
        cases k with
        | false => exact h2 _ _ (a2.done (Grow.refl _) newB)
        | true =>
          refine Left.opd (f := fun z r4 => op2 o2 z (cmpV o') r4) a2 h2 fun o3 ρ3 Z3 z H3 a3 b3 q3 h3 => ?_
          exact Left.op2 (rC_op2 o') a3 (b3.stay a2.rel q2) q3 h3
theorem se_cmp2 {a b c : Expr} {pos} {o o' : COp} {ma mb mc : Rho → R Opd} (hk : C.K = X.K) (ho : OpR X (compareOp (opC o)) (rC X.K (cmpD o))) (ho' : OpR X (compareOp (opC o')) (rC X.K (cmpD o'))) (hm : lastMarks [opC o, opC o'] [b, c] = false) (sa : SO C X a ma) (sb : SO C X b mb) (sc : SO C X c mc) :
    SE C X (.Compare a [opC o, opC o'] [b, c] pos) (evC2 o o' ma mb mc) := fun W tk => PE.imp (pe_chain ho ho' (sa W tk) (sb W tk) (sc W tk) hm) fun σ H Q h => imp_chain hk h
theorem evC2_bl {o o' : COp} {ma mb mc : Rho → R Opd} {r r' : Rho} {v : Ow × D} (h : evC2 o o' ma mb mc r = .ok v r') : ∃ k, v = (.val, .bl k) := by
  unfold evC2 at h
  cases e1 : ma r with
  | no => rw [e1] at h; cases h
  | ex c r1 => rw [e1] at h; cases h
  | ok x r1 =>
    rw [e1] at h
    simp only [R.bind] at h
    cases e2 : mb r1 with
    | no => rw [e2] at h; cases h
    | ex c r1 => rw [e2] at h; cases h
    | ok y r2 =>
      rw [e2] at h
      dsimp only at h
      cases e3 : op2 x y (cmpD o) r2 with
      | no => rw [e3] at h; cases h
      | ex c r1 => rw [e3] at h; cases h
      | ok k r3 =>
        rw [e3] at h
        dsimp only at h
        cases k with
        | false => cases h; exact ⟨_, rfl⟩
        | true =>
          simp only [if_true] at h
          cases e4 : mc r3 with
          | no => rw [e4] at h; cases h
          | ex c r1 => rw [e4] at h; cases h
          | ok z r4 =>
            rw [e4] at h
            dsimp only at h
            unfold op2 at h
            split at h
            · unfold lift cmpV at h
              rename_i d1 d2 _ _
              cases e5 : cmpD o' d1 d2 with
              | none => rw [e5] at h; cases h
              | some k => rw [e5] at h; cases h; exact ⟨_, rfl⟩
            · cases h
theorem sb_of_bl {e : Expr} {ev : Rho → R (Ow × D)} (hb : ∀ r v r', ev r = .ok v r' → ∃ k, v = (.val, .bl k)) (h : ∀ W, Takes X W → ∃ t, PT X e (tTest t) ∧ ∀ σ H Q, tX C W ev (GE C) σ H Q → t σ H Q) : SB C X e (fun r => (ev r).bind fun v r1 => lift (truO v.2) r1) := by
  intro W tk
  obtain ⟨t, ht, hi⟩ := h W tk
  refine PT.imp ht ?_
  rintro σ H Q ⟨Z, ρ, r0, h⟩
  refine hi _ _ _ ⟨Z, ρ, r0, ?_⟩
  change LeftB C W Z ρ σ H ((ev ρ).bind fun v r1 => lift (truO v.2) r1) Q at h
  cases e : ev ρ with
  | no => rw [e] at h; exact h
  | ex c ρ1 => rw [e] at h; exact h
  | ok v ρ1 =>
    rw [e] at h
    obtain ⟨k, rfl⟩ := hb _ _ _ e
    intro x H1 p
    have u := (p.val r0).2
    simp only [Rp] at u
    exact ⟨k, u, h H1 (p.x r0)⟩
theorem sb_cmp2 {a b c : Expr} {pos} {o o' : COp} {ma mb mc : Rho → R Opd} (hk : C.K = X.K) (ho : OpR X (compareOp (opC o)) (rC X.K (cmpD o))) (ho' : OpR X (compareOp (opC o')) (rC X.K (cmpD o'))) (hm : lastMarks [opC o, opC o'] [b, c] = false) (sa : SO C X a ma) (sb : SO C X b mb) (sc : SO C X c mc) :
    SB C X (.Compare a [opC o, opC o'] [b, c] pos) (fun r => (evC2 o o' ma mb mc r).bind fun v r1 => lift (truO v.2) r1) :=
  sb_of_bl (fun _ _ _ h => evC2_bl h) fun W tk => ⟨_, pt_chain ho ho' (sa W tk) (sb W tk) (sc W tk) hm, fun σ H Q h => imp_chain hk h⟩
end
end VS
end

section
set_option autoImplicit false
set_option linter.all false
/-! VIdx: subscripts, slices. -/
namespace VS
open PySem PySem.Spec PyProof.Rows L2

theorem place_ix (i : Int) (n : Nat) : place i n = ixN n i := rfl
def noSlc : Expr → Bool
  | .Slice .. => false
  | _ => true
theorem plain_ix {b : Expr} (h : noSlc b = true) : PlainIx b := by
  intro o i
  cases b <;> first | rfl | simp [noSlc] at h
section
variable {C : RC} {X : Cx} {W : WX} {α : Type} {Z : Addr → Prop} {ρ ρ' : Rho} {σ : L2.St} {H H' : Hp} {K : PySem.W.Frag} {P P' : Addr → Prop} {d : D} {a : Addr} {v : V} {o : Ow}
theorem RpL.at {ds : List D} {vs : List V} {i : Int} (l : RpL K P H ds vs) (e : ((place i ds.length).bind fun k => ds[k]?) = some d) : ∃ v, atI vs i = some v ∧ Rp K P H d v := by
  simp only [Option.bind_eq_some_iff] at e
  obtain ⟨k, e1, e2⟩ := e
  obtain ⟨v, e3, q⟩ := l.get e2
  refine ⟨v, ?_, q⟩
  unfold atI
  rw [l.length, ← place_ix, e1]
  exact e3
theorem ix_D : IxR X (rD X.K idxV) := by
  rintro value slice pins s σ H x y v u Q I rx ry ⟨P, d1, d2, o, d, h1, h2, e, q⟩ hs
  simp only [idxV, Option.map_eq_some_iff] at e
  obtain ⟨d', e, e'⟩ := e
  cases e'
  cases d1 <;> simp only [idxD, reduceCtorEq] at e
  · cases d2 <;> simp only [idxD, reduceCtorEq] at e
    rename_i z i
    split at e <;> try (cases e; done)
    rename_i hz
    simp only [Option.bind_eq_some_iff, Option.map_eq_some_iff] at e
    obtain ⟨k, e1, c, e2, rfl⟩ := e
    refine ix_seq value slice pins s σ H x y v u Q I rx ry (.inr (.inr ⟨tx z, i, c, h1.str, h2.int, by rw [tx_length]; exact sizeLine_few hz, ?_, q _ _ (Grow.refl H) (newT (s := [c]))⟩)) hs
    unfold atI tx
    rw [← place_ix]
    simp only [List.toList_toArray, e1, Option.bind_some, e2]
  · cases d2 <;> simp only [idxD, reduceCtorEq] at e
    obtain ⟨a, vs, ea, r, l⟩ := h1.tup
    obtain ⟨w, e1, q1⟩ := l.at e
    exact ix_seq value slice pins s σ H x y v u Q I rx ry (.inr (.inl ⟨a, vs, _, w, ea, h2.int, r, e1, q _ _ (Grow.refl H) (newVal q1)⟩)) hs
  · cases d2 <;> simp only [idxD, reduceCtorEq] at e
    obtain ⟨a, vs, ea, r, l⟩ := h1.lst
    obtain ⟨w, e1, q1⟩ := l.at e
    exact ix_seq value slice pins s σ H x y v u Q I rx ry (.inl ⟨a, vs, _, w, ea, h2.int, .inl r, e1, q _ _ (Grow.refl H) (newVal q1)⟩) hs
/-- a[i] -/
theorem se_idx {a b : Expr} {pos : Pos} {eva evb : Rho → R Opd} (hk : C.K = X.K) (hs : noSlc b = true) (sa : SO C X a eva) (sb : SO C X b evb) :
    SE C X (.Subscript a b pos) (fun r => (eva r).bind fun x r1 => (evb r1).bind fun y r2 => op2 x y idxV r2) := by
  intro W tk
  refine PE.imp (pe_ix ix_D (sa W tk) (sb W tk) (plain_ix hs)) ?_
  rintro σ H Q ⟨Z, ρ, r0, h⟩
  refine Left.opd (W := W) (G := GE C) (Z := Z) (ρ := ρ) (H := H) (Q := Q) (f := fun x r1 => (evb r1).bind fun y r2 => op2 x y idxV r2) (.start r0) h fun o1 ρ1 Z1 x H1 a1 b1 q1 h1 => ?_
  refine Left.opd (f := fun y r2 => op2 o1 y idxV r2) a1 h1 fun o2 ρ2 Z2 y H2 a2 b2 q2 h2 => ?_
  exact Left.op2 (hk ▸ rD_op2 _ _) a2 (b2.stay a1.rel q1) q2 h2
/-! ### slices -/
theorem cut_sIx (n dft : Nat) (hd : dft ≤ n) (o : Option Int) : (match o with | some i => cutTo i n | none => dft) = HT.sIx n dft o := by
  cases o with
  | none => rfl
  | some i =>
    simp only [cutTo, HT.sIx]
    by_cases h : 0 ≤ i
    · rw [if_pos h, if_neg (by omega)]
    · rw [if_neg h, if_pos (by omega)]
theorem slice_cut {β : Type} (xs : List β) (lo hi : Option Int) : slice xs lo hi = (xs.drop (HT.sIx xs.length 0 lo)).take (HT.sIx xs.length xs.length hi - HT.sIx xs.length 0 lo) := by
  show (xs.take (match hi with | some i => cutTo i xs.length | none => xs.length)).drop (match lo with | some i => cutTo i xs.length | none => 0) = _
  rw [List.drop_take, cut_sIx xs.length 0 (Nat.zero_le _) lo, cut_sIx xs.length xs.length (Nat.le_refl _) hi]
theorem RpL.slice {ds : List D} {vs : List V} (l : RpL K P H ds vs) (lo hi : Option Int) : RpL K P H (slice ds lo hi) (cutV vs lo hi) := by
  rw [slice_cut, cutV, l.length]
  exact (l.drop _).take _
def rS (K : PySem.W.Frag) : V → Option Int → Option Int → Hp → VK → Prop := fun x lo hi H Q => ∃ P d1 o d, RpT K P H d1 x ∧ slcD lo hi d1 = some (o, d) ∧ ∀ v H', Grow H H' → New K P H H' o d v → Q v H'
theorem sl_D : SlR X (rS X.K) := by
  rintro pins s σ H x v vl vu lo hi sl Q I rx hsl pl pu ⟨P, d1, o, d, h1, e, q⟩
  cases d1 <;> simp only [slcD, reduceCtorEq] at e
  · split at e <;> cases e
    rename_i z hz
    refine sl_str pins s σ H x v vl vu lo hi sl Q I rx hsl pl pu ⟨tx z, h1.str, by rw [tx_length]; exact sizeLine_few hz, ?_⟩
    have : cutS (tx z) lo hi = tx (slice z lo hi) := by
      rw [slice_cut]
      unfold cutS
      rw [tx_length]; rfl
    rw [this]
    exact q _ _ (Grow.refl H) newT
  · rename_i ds
    cases e
    obtain ⟨a, vs, ea, r, l⟩ := h1.tup
    refine sl_tupA pins s σ H x v vl vu lo hi sl Q I rx hsl pl pu ⟨a, vs, ea, r, fun ⟨z1, z2⟩ => ?_, fun _ p hp => ?_⟩
    · have : slice ds lo hi = ds := by
        rw [slice_cut, ← l.length, z1, z2]
        simp [l.length]
      rw [this] at q
      exact q _ _ (Grow.refl H) (newVal (rpTup r l))
    · exact q _ _ (Grow.new hp) (newTup (l.slice lo hi) hp)
  · cases e
    obtain ⟨a, vs, ea, r, l⟩ := h1.lst
    exact sl_list pins s σ H x v vl vu lo hi sl Q I rx hsl pl pu ⟨a, vs, ea, .inl r, fun p hp => q _ _ (Grow.new hp) (newLst (l.slice lo hi) hp)⟩
def tP (C : RC) (W : WX) (ev : Rho → R (Option Int)) : TO := fun σ H Q => ∃ Z ρ, Rel C Z ρ σ H ∧ match ev ρ with
  | .ok i ρ' => ∀ H', XPost C Z ρ σ H ρ' H' → Q i H'
  | .ex c ρ' => ∀ H', XPost C Z ρ σ H ρ' H' → W (C.cv c) none σ H'
  | .no => False
/-- a slice's part -/
def SP (C : RC) (X : Cx) (e : Option Expr) (ev : Rho → R (Option Int)) : Prop := ∀ W, Takes X W → PO X e (tP C W ev)
theorem PO.imp {e : Option Expr} {t t' : TO} (h : PO X e t) (i : ∀ σ H Q, t' σ H Q → t σ H Q) : PO X e t' := ⟨fun pins s σ H Q I q => h.run pins s σ H Q I (i σ H Q q)⟩
theorem sp_none : SP C X none (fun r => .ok none r) := by
  intro W tk
  refine PO.imp po_none ?_
  rintro σ H Q ⟨Z, ρ, r0, h⟩
  exact h H (.start r0)
theorem sp_some {e : Expr} {ev : Rho → R Opd} (s : SO C X e ev) : SP C X (some e) (fun r => (ev r).bind fun o r1 => match res r1 o with
    | some (.int i) => .ok (some i) r1
    | _ => .no) := by
  intro W tk
  refine PO.imp (po_some (s W tk)) ?_
  rintro σ H Q ⟨Z, ρ, r0, h⟩
  refine ⟨Z, ρ, r0, ?_⟩
  cases e0 : ev ρ with
  | no => simp only [e0, R.bind] at h
  | ex c ρ1 => simp only [e0, R.bind] at h; exact h
  | ok o ρ1 =>
    simp only [e0, R.bind] at h
    rintro x H1 ⟨Z1, p⟩
    cases e1 : res ρ1 o with
    | none => rw [e1] at h; exact h.elim
    | some d =>
      rw [e1] at h
      cases d with
      | int i => exact ⟨i, (p.rel.use p.ext.1 p.opd e1).int, h H1 p.mid.fin⟩
      | _ => exact h.elim
theorem Left.part {G : (Addr → Prop) → Rho → L2.St → Hp → Rho → α → V → Hp → Prop} {Z1 : Addr → Prop} {ρ1 : Rho} {H1 : Hp} {Q : VK} {ev : Rho → R (Option Int)} {f : Option Int → Rho → R α} (a : Mid C Z ρ σ H Z1 ρ1 H1) (h : Left C W G Z ρ σ H ((ev ρ1).bind f) Q) {R' : Option Int → Hp → Prop}
    (k : ∀ i ρ2 H2, Mid C Z ρ σ H Z1 ρ2 H2 → Mid C Z1 ρ1 σ H1 Z1 ρ2 H2 → Left C W G Z ρ σ H (f i ρ2) Q → R' i H2) : tP C W ev σ H1 R' := by
  refine ⟨Z1, ρ1, a.rel, ?_⟩
  cases e : ev ρ1 with
  | no => rw [e] at h; exact h
  | ex c ρ2 =>
    rw [e] at h
    intro H2 p
    exact h H2 (a.x p)
  | ok o ρ2 =>
    rw [e] at h
    intro H2 p
    exact k o ρ2 H2 (a.trans p.mid) p.mid h
theorem se_slc {a : Expr} {lo hi : Option Expr} {p2 pos : Pos} {eva : Rho → R Opd} {el eh : Rho → R (Option Int)} (hk : C.K = X.K) (sa : SO C X a eva) (sl : SP C X lo el) (sh : SP C X hi eh) :
    SE C X (.Subscript a (.Slice lo hi none p2) pos) (fun r => (eva r).bind fun x r1 => (el r1).bind fun l r2 => (eh r2).bind fun h r3 => op1 x (slcD l h) r3) := by
  intro W tk
  refine PE.imp (pe_slice sl_D (sa W tk) (sl W tk) (sh W tk)) ?_
  rintro σ H Q ⟨Z, ρ, r0, h⟩
  refine Left.opd (W := W) (G := GE C) (Z := Z) (ρ := ρ) (H := H) (Q := Q) (f := fun x r1 => (el r1).bind fun l r2 => (eh r2).bind fun h r3 => op1 x (slcD l h) r3) (.start r0) h fun o1 ρ1 Z1 x H1 a1 b1 q1 h1 => ?_
  refine Left.part (f := fun l r2 => (eh r2).bind fun h r3 => op1 o1 (slcD l h) r3) a1 h1 fun l ρ2 H2 a2 b2 h2 => ?_
  refine Left.part (f := fun h r3 => op1 o1 (slcD l h) r3) a2 h2 fun h' ρ3 H3 a3 b3 h3 => ?_
  refine Left.op1 (C := C) (r := fun x H Q => rS X.K x l h' H Q) ?_ a3 (b3.stay a2.rel (b2.stay a1.rel q1)) h3
  intro P H x d1 o d Q g1 e q
  rw [← hk]
  exact ⟨P, d1, o, d, g1, e, q⟩
/-- a[::-1] -/
theorem se_rev {a : Expr} {k : Nat} {p1 p2 p3 pos : Pos} {eva : Rho → R Opd} (hk : C.K = X.K) (sa : SO C X a eva) :
    SE C X (.Subscript a (.Slice none none (some (.UnaryOp .USub (.Constant (.int 1) k p1) p2)) p3) pos) (fun r => (eva r).bind fun x r1 => op1 x revD r1) := by
  intro W tk
  refine PE.imp (pe_revL (sa W tk)) ?_
  rintro σ H Q ⟨Z, ρ, r0, h⟩
  refine Left.opd (W := W) (G := GE C) (Z := Z) (ρ := ρ) (H := H) (Q := Q) (f := fun x r1 => op1 x revD r1) (.start r0) h fun o1 ρ1 Z1 x H1 a1 b1 q1 h1 => ?_
  refine Left.op1 (C := C) (r := fun x H1 Q => ∃ a xs, x = .ref a ∧ SqL X.K H1 a xs ∧ ∀ p, H1 p = none → Q (.ref p) (upd H1 p (.lst xs.reverse))) ?_ a1 q1 h1
  intro P H x d1 o d Q g1 e q
  cases d1 <;> simp only [revD, reduceCtorEq] at e
  cases e
  obtain ⟨a, vs, ea, r, l⟩ := g1.lst
  exact ⟨a, vs, ea, .inl r, fun p hp => q _ _ (Grow.new hp) (newLst l.reverse hp)⟩
end
end VS
end

section
set_option autoImplicit false
set_option linter.all false
/-! VText: an int's text. -/
namespace VS
open PySem PySem.Spec PyProof.Rows L2
theorem digitChar_nat : ∀ n : Nat, n < 10 → (Nat.digitChar n).toNat = 48 + n := by decide
theorem digits_core : ∀ (f n : Nat) (acc : List Char), n < f → (Nat.toDigitsCore 10 f n acc).map Char.toNat = digitsF f n (acc.map Char.toNat)
  | 0, n, _, h => absurd h (Nat.not_lt_zero n)
  | f + 1, n, acc, h => by
    rw [Nat.toDigitsCore, digitsF]
    by_cases hn : n < 10
    · rw [if_pos (Nat.div_eq_of_lt hn), if_pos hn, List.map_cons, digitChar_nat _ (Nat.mod_lt _ (by omega)), Nat.mod_eq_of_lt hn]
    · rw [if_neg (by omega), if_neg hn, digits_core f (n / 10) _ (by omega), List.map_cons, digitChar_nat _ (Nat.mod_lt _ (by omega))]
theorem natText_repr (n : Nat) : (Nat.repr n).toList.map Char.toNat = natText n := by
  rw [Nat.repr, String.toList_ofList]
  exact digits_core (n + 1) n [] (Nat.lt_succ_self n)
theorem int_tx (i : Int) : PySem.Str.ofString (toString i) = tx (intText i) := by
  rw [PySem.Str.ofString_eq_toList]
  unfold tx
  congr 1
  congr 1
  cases i with
  | ofNat n =>
    have : intText (Int.ofNat n) = natText n := by
      unfold intText
      rw [if_neg (by simp)]; rfl
    rw [this]
    exact natText_repr n
  | negSucc n =>
    have : intText (Int.negSucc n) = 45 :: natText (n + 1) := by
      unfold intText
      rw [if_pos (Int.negSucc_lt_zero n)]; rfl
    rw [this]
    show ("-" ++ Nat.repr (n + 1)).toList.map Char.toNat = _
    rw [String.toList_append, List.map_append, natText_repr]
    rfl
end VS
end

section
set_option autoImplicit false
set_option linter.all false
/-! VTupB: sum, min, max of tuples of ints. -/
namespace VS
open PySem PySem.Spec PyProof.Rows L2
section
variable {prog : Program} {w : World} {A : Around} {E : Value → Shared → Prop} {s : Shared} {t : Addr} {its : List Value} {ns : List Int}
theorem ints_items (hi : IntsAre its ns) : ∃ xs : Array (Int × Tok), its.toArray = intItems xs ∧ xs.toList.map Prod.fst = ns := by
  obtain ⟨xs, e⟩ := hi.allInts.items
  refine ⟨xs, e, ?_⟩
  have hn : numsOf (intItems xs).toList = ns := by rw [← e]; exact hi.numsOf
  rw [nums_intItems] at hn
  exact hn
theorem sumT_raw (hh : A.handled = none) (ht : s.heap.IsTuple t its.toArray) (hi : IntsAre its ns) {Q : Value → Shared → Prop}
    (h : ∀ h2 tk t2, (∀ b o, s.heap.get? b = some o → h2.get? b = some o) → Q (.int ns.sum t2) { s with heap := h2, toks := tk }) : wpAny (model prog w) A (call (.builtin "sum") [.ref t]) Q E s := by
  obtain ⟨xs, e, hn⟩ := ints_items hi
  rw [e] at ht
  refine PySem.W.ktm_sumG hh ht fun h2 tk t2 hk => ?_
  rw [preSum_eq, List.take_of_length_le (by simp), hn]
  exact h h2 tk t2 hk
theorem tupW (hh : A.handled = none) (ht : s.heap.IsTuple t its.toArray) (hi : IntsAre its ns) (hne : 0 < ns.length) {xs : Array (Int × Tok)} (e : its.toArray = intItems xs) (hn : xs.toList.map Prod.fst = ns) : 0 < xs.size ∧ (∀ j, numAt xs j = ns.getD j 0) := by
  constructor
  · rw [← hn] at hne; simpa using hne
  · intro j
    rw [← hn]
    exact numAt_eq xs j
theorem minT_raw (hh : A.handled = none) (ht : s.heap.IsTuple t its.toArray) (hi : IntsAre its ns) (hne : 0 < ns.length) {Q : Value → Shared → Prop}
    (h : ∀ h2 tk M t2, (∀ b o, s.heap.get? b = some o → h2.get? b = some o) → M ∈ ns → (∀ a, a ∈ ns → M ≤ a) → Q (.int M t2) { s with heap := h2, toks := tk }) : wpAny (model prog w) A (call (.builtin "min") [.ref t]) Q E s := by
  obtain ⟨xs, e, hn⟩ := ints_items hi
  obtain ⟨hz, hnum⟩ := tupW hh ht hi hne e hn
  rw [e] at ht
  obtain ⟨o, ho, hc, n, hd⟩ := id ht
  have hlt := Heap.lt_size ho
  have W := Walks.tuple (prog := prog) (w := w) (A := A.in1) hh s.heap.objs.size t (Nat.ne_of_lt hlt) (intItems xs)
  refine call_min_walk (wpAny_pyIter_tuple ht ?_)
  refine ⟨_, _, _, _, _, _, _, rfl, W, ⟨⟨_, Heap.get?_push_size _ rfl, rfl, rfl⟩, ht.at fun o e => Heap.get?_push_of_some _ e⟩, fun b hb => ?_, by simpa [intItems] using hz, CmpOf.ints_lt (numAt xs) (fun _ _ => intItems_at), fun v h2 tk hP hk => ?_⟩
  · rcases List.mem_cons.1 hb with rfl | hb
    · exact Heap.lt_size (Heap.get?_push_size _ rfl)
    · obtain rfl := List.mem_singleton.1 hb
      exact Heap.lt_size (Heap.get?_push_of_some _ ho)
  · have hv : (intItems xs)[argBest (fun i j => decide (numAt xs i < numAt xs j)) (xs.size - 1)]? = some v := by simpa [intItems] using hP
    obtain ⟨t2, rfl⟩ := intItems_at hv
    obtain ⟨h1, h3⟩ := argBest_lt (numAt xs) (xs.size - 1)
    have zl : xs.size = ns.length := by rw [← hn]; simp
    refine h h2 tk _ t2 (fun b o e => hk b o (fun hb => absurd (Heap.lt_size e) ((List.mem_singleton.1 hb) ▸ Nat.lt_irrefl _)) (Heap.get?_push_of_some _ e)) ?_ fun a ha => ?_
    · rw [hnum]; exact PySem.getD_mem (by omega)
    · obtain ⟨j, hj, rfl⟩ := mem_getD ha
      rw [← hnum]
      exact h3 j (by omega)
theorem maxT_raw (hh : A.handled = none) (ht : s.heap.IsTuple t its.toArray) (hi : IntsAre its ns) (hne : 0 < ns.length) {Q : Value → Shared → Prop}
    (h : ∀ h2 tk M t2, (∀ b o, s.heap.get? b = some o → h2.get? b = some o) → M ∈ ns → (∀ a, a ∈ ns → a ≤ M) → Q (.int M t2) { s with heap := h2, toks := tk }) : wpAny (model prog w) A (call (.builtin "max") [.ref t]) Q E s := by
  obtain ⟨xs, e, hn⟩ := ints_items hi
  obtain ⟨hz, hnum⟩ := tupW hh ht hi hne e hn
  rw [e] at ht
  obtain ⟨o, ho, hc, n, hd⟩ := id ht
  have hlt := Heap.lt_size ho
  have W := Walks.tuple (prog := prog) (w := w) (A := A.in1) hh s.heap.objs.size t (Nat.ne_of_lt hlt) (intItems xs)
  refine call_max_walk (wpAny_pyIter_tuple ht ?_)
  refine ⟨_, _, _, _, _, _, _, rfl, W, ⟨⟨_, Heap.get?_push_size _ rfl, rfl, rfl⟩, ht.at fun o e => Heap.get?_push_of_some _ e⟩, fun b hb => ?_, by simpa [intItems] using hz, CmpOf.ints_gt (numAt xs) (fun _ _ => intItems_at), fun v h2 tk hP hk => ?_⟩
  · rcases List.mem_cons.1 hb with rfl | hb
    · exact Heap.lt_size (Heap.get?_push_size _ rfl)
    · obtain rfl := List.mem_singleton.1 hb
      exact Heap.lt_size (Heap.get?_push_of_some _ ho)
  · have hv : (intItems xs)[argBest (fun i j => decide (numAt xs i > numAt xs j)) (xs.size - 1)]? = some v := by simpa [intItems] using hP
    obtain ⟨t2, rfl⟩ := intItems_at hv
    obtain ⟨h1, h3⟩ := argBest_gt (numAt xs) (xs.size - 1)
    have zl : xs.size = ns.length := by rw [← hn]; simp
    refine h h2 tk _ t2 (fun b o e => hk b o (fun hb => absurd (Heap.lt_size e) ((List.mem_singleton.1 hb) ▸ Nat.lt_irrefl _)) (Heap.get?_push_of_some _ e)) ?_ fun a ha => ?_
    · rw [hnum]; exact PySem.getD_mem (by omega)
    · obtain ⟨j, hj, rfl⟩ := mem_getD ha
      rw [← hnum]
      exact h3 j (by omega)
end
end VS
end

section
set_option autoImplicit false
set_option linter.all false
/-! VSort: sorted, of ints, pairs, texts. -/
namespace VS
open PySem PySem.Spec PyProof.Rows L2
section
variable {α : Type} {lt : α → α → Bool}
theorem insS_perm (x : α) : ∀ l : List α, (insS lt x l).Perm (x :: l)
  | [] => .refl _
  | y :: ys => by
    simp only [insS]
    split
    · exact (List.Perm.cons y (insS_perm x ys)).trans (.swap x y ys)
    · exact .refl _
theorem sortS_perm : ∀ l : List α, (sortS lt l).Perm l
  | [] => .refl _
  | x :: xs => (insS_perm x _).trans (.cons x (sortS_perm xs))
/-- nothing comes ahead of what is less -/
def Srt (lt : α → α → Bool) (l : List α) : Prop := l.Pairwise fun x y => lt y x = false
theorem insS_srt (O : SrtO.Swo lt) (x : α) : ∀ l : List α, Srt lt l → Srt lt (insS lt x l)
  | [], _ => List.pairwise_singleton ..
  | y :: ys, h => by
    simp only [insS]
    have h1 := List.pairwise_cons.1 h
    split
    · rename_i hl
      refine List.pairwise_cons.2 ⟨fun z hz => ?_, insS_srt O x ys h1.2⟩
      rcases List.mem_cons.1 ((insS_perm x ys).mem_iff.1 hz) with rfl | hz
      · exact O.asym _ _ hl
      · exact h1.1 z hz
    · rename_i hl
      have hl : lt y x = false := by simpa using hl
      refine List.pairwise_cons.2 ⟨fun z hz => ?_, h⟩
      rcases List.mem_cons.1 hz with rfl | hz
      · exact hl
      · exact O.tr _ _ _ hl (h1.1 z hz)
theorem sortS_srt (O : SrtO.Swo lt) : ∀ l : List α, Srt lt (sortS lt l)
  | [] => List.Pairwise.nil
  | x :: xs => insS_srt O x _ (sortS_srt O xs)
/-- there is just one -/
theorem srt_uniq (O : SrtO.Swo lt) (anti : ∀ x y, lt x y = false → lt y x = false → x = y) : ∀ {l m : List α}, l.Perm m → Srt lt l → Srt lt m → l = m
  | [], m, h, _, _ => (List.Perm.nil_eq h)
  | x :: l, [], h, _, _ => absurd h.length_eq (by simp)
  | x :: l, y :: m, h, hl, hm => by
    have l1 := List.pairwise_cons.1 hl
    have m1 := List.pairwise_cons.1 hm
    have e : x = y := by
      refine anti x y ?_ ?_
      · rcases List.mem_cons.1 (h.mem_iff.1 List.mem_cons_self) with e | hx
        · rw [e]; exact O.refl y
        · exact m1.1 x hx
      · rcases List.mem_cons.1 (h.mem_iff.2 List.mem_cons_self) with e | hy
        · rw [e]; exact O.refl x
        · exact l1.1 y hy
    subst e
    rw [srt_uniq O anti h.cons_inv l1.2 m1.2]
end
theorem swoI : SrtO.Swo ltI := ⟨fun x y h => by simp only [ltI, decide_eq_true_eq, decide_eq_false_iff_not] at *; omega, fun x y z h1 h2 => by simp only [ltI, decide_eq_false_iff_not] at *; omega⟩
theorem sort_ints {ns ns' : List Int} (h : ns'.Perm ns) (s : ns'.Pairwise (· ≤ ·)) : ns' = sortS ltI ns := by
  refine srt_uniq swoI (fun x y h1 h2 => ?_) (h.trans (sortS_perm ns).symm) ?_ (sortS_srt swoI ns)
  · simp only [ltI, decide_eq_false_iff_not] at *; omega
  · exact s.imp fun {a b} (q : a ≤ b) => by simp only [ltI, decide_eq_false_iff_not]; omega
theorem ltP2_lex (p q : Int × Int) : ltP2 p q = SrtO.lexB p q := by
  rw [Bool.eq_iff_iff, SrtO.lexB_iff]
  simp only [ltP2, Bool.or_eq_true, Bool.and_eq_true, decide_eq_true_eq]
theorem swoP : SrtO.Swo ltP2 := by
  have := L2.ltP_swo
  refine ⟨fun x y h => ?_, fun x y z h1 h2 => ?_⟩
  · rw [ltP2_lex] at *
    have a := SrtO.lexB_iff.mp h
    exact SrtO.lexB_no.mpr (by omega)
  · rw [ltP2_lex] at *
    have a := SrtO.lexB_no.mp h1
    have b := SrtO.lexB_no.mp h2
    exact SrtO.lexB_no.mpr (by omega)
theorem antiP (x y : Int × Int) (h1 : ltP2 x y = false) (h2 : ltP2 y x = false) : x = y := by
  rw [ltP2_lex] at *
  have a := SrtO.lexB_no.mp h1
  have b := SrtO.lexB_no.mp h2
  exact Prod.ext (by omega) (by omega)
theorem sort_pairs {α : Type} {k : α → Int × Int} {ys xs : List α} (h : ys.Perm xs) (s : SrtO.Srtd (fun x y => SrtO.lexB (k x) (k y)) ys) : ys.map k = sortS ltP2 (xs.map k) := by
  refine srt_uniq swoP antiP ((h.map k).trans (sortS_perm _).symm) ?_ (sortS_srt swoP _)
  refine List.pairwise_map.2 (s.imp fun {a b} q => ?_)
  rw [ltP2_lex]; exact q
end VS
end

section
set_option autoImplicit false
set_option linter.all false
/-! VBi: built-in functions of plain data. -/
namespace VS
open PySem PySem.Spec PyProof.Rows L2

section
variable {K : PySem.W.Frag} {P : Addr → Prop} {H H' : Hp} {X : Cx} {x : V} {d : D}
theorem rp_int {i : Int} : Rp K P H (.int i) (.int i) := by simp only [Rp]
theorem rpL_ints : ∀ is : List Int, RpL K P H (is.map .int) (is.map V.int)
  | [] => RpL.nil
  | i :: is => RpL.cons rp_int (rpL_ints is)
/-- pairs of ints -/
def keyV (H : Hp) (K : PySem.W.Frag) (x : V) (p : Int × Int) : Prop := ∃ t, x = .ref t ∧ SqT K H t [.int p.1, .int p.2]
theorem pairsI_rp : ∀ {ds : List D} {ps : List (Int × Int)} {vs : List V}, pairsI ds = some ps → RpL K P H ds vs → Paired (fun x p => keyV H K x p) vs ps
  | [], ps, vs, e, h => by
    simp only [pairsI, Option.some.injEq] at e
    simp only [RpL] at h
    subst e; subst h; exact .nil
  | d :: ds, ps, vs, e, h => by
    unfold pairsI at e
    split at e
    · rename_i z; cases z
    · rename_i i j r z
      cases z
      simp only [Option.map_eq_some_iff] at e
      obtain ⟨qs, e1, rfl⟩ := e
      simp only [RpL, Rp] at h
      obtain ⟨v, vs', rfl, ⟨a, ws, rfl, r, w1, ws1, rfl, rfl, w2, ws2, rfl, rfl, rfl⟩, l⟩ := h
      exact .cons ⟨a, rfl, r⟩ (pairsI_rp e1 l)
    · cases e
theorem Paired.get {α β : Type} {F : α → β → Prop} : ∀ {xs : List α} {ys : List β}, Paired F xs ys → ∀ x ∈ xs, ∃ y ∈ ys, F x y
  | _, _, .nil, x, h => absurd h (by simp)
  | _, _, .cons f t, x, h => by
    rcases List.mem_cons.1 h with rfl | h
    · exact ⟨_, List.mem_cons_self, f⟩
    · obtain ⟨y, hy, q⟩ := Paired.get t x h
      exact ⟨y, List.mem_cons_of_mem _ hy, q⟩
theorem Paired.map_eq {α β : Type} {F : α → β → Prop} {k : α → β} : ∀ {xs : List α} {ys : List β}, Paired F xs ys → (∀ x y, F x y → k x = y) → xs.map k = ys
  | _, _, .nil, _ => rfl
  | _, _, .cons f t, h => by rw [List.map_cons, h _ _ f, Paired.map_eq t h]
theorem SqT.inj {t : Addr} {xs ys : List V} {pins : List (Addr × Obj)} {s : Shared} {σ : L2.St} (I : Inv X pins σ H s) (h : SqT X.K H t xs) (h' : SqT X.K H t ys) (f : ∀ x ∈ xs, ∃ i, x = V.int i) (g : ∀ x ∈ ys, ∃ i, x = V.int i) : xs = ys := by
  obtain ⟨its, r, ⟨o, ho, _, n, hd⟩, _⟩ := I.tuple h
  obtain ⟨its2, r2, ⟨o2, ho2, _, n2, hd2⟩, _⟩ := I.tuple h'
  rw [ho] at ho2; cases ho2
  rw [hd] at hd2
  have e : its = its2 := by
    have := Data.seq.inj hd2
    simpa using this.1
  subst e
  exact same r r2 f g
where
  same : ∀ {xs ys : List V} {us : List Value}, Vals xs us → Vals ys us → (∀ x ∈ xs, ∃ i, x = V.int i) → (∀ x ∈ ys, ∃ i, x = V.int i) → xs = ys
  | _, _, _, .nil, .nil, _, _ => rfl
  | x :: xs, y :: ys, u :: us, .cons a t, .cons b t', f, g => by
    obtain ⟨i, rfl⟩ := f x List.mem_cons_self
    obtain ⟨j, rfl⟩ := g y List.mem_cons_self
    obtain ⟨t1, rfl⟩ := a
    obtain ⟨t2, e⟩ := b
    cases e
    rw [same t t' (fun x h => f x (List.mem_cons_of_mem _ h)) fun x h => g x (List.mem_cons_of_mem _ h)]
open Classical in
theorem cr_sortedPT : CallR X (.builtin "sorted") (fun vs H Q => ∃ (a : Addr) (xs : List V) (ps : List (Int × Int)), vs = [V.ref a] ∧ SqL X.K H a xs ∧ Paired (fun x p => keyV H X.K x p) xs ps ∧
    ∀ ys p, Paired (fun x p => keyV H X.K x p) ys (sortS ltP2 ps) → H p = none → Q (.ref p) (upd H p (.lst ys))) := by
  intro pins s σ H vs us Q I r h
  obtain ⟨a, xs, ps, rfl, hs, hx, q⟩ := h
  let k : V → Int × Int := fun x => if e : ∃ p, keyV H X.K x p then e.choose else (0, 0)
  have hk : ∀ x p, keyV H X.K x p → k x = p := fun x p hp => by
    have e : ∃ p, keyV H X.K x p := ⟨p, hp⟩
    have hc := e.choose_spec
    have kx : k x = e.choose := dif_pos e
    rw [kx]
    obtain ⟨t, rfl, h1⟩ := hp
    obtain ⟨t', e', h2⟩ := hc
    cases e'
    have z := SqT.inj I h2 h1 (fun x hx => by simp at hx; rcases hx with rfl | rfl <;> exact ⟨_, rfl⟩) (fun x hx => by simp at hx; rcases hx with rfl | rfl <;> exact ⟨_, rfl⟩)
    simp only [List.cons.injEq, V.int.injEq, and_true] at z
    exact Prod.ext z.1 z.2
  have hxk : ∀ x ∈ xs, keyV H X.K x (k x) := fun x hm => by
    obtain ⟨p, _, hp⟩ := Paired.get hx x hm
    rw [hk x p hp]; exact hp
  obtain ⟨its, rv, hl, hz⟩ := I.list hs
  obtain ⟨u, rfl, ru⟩ := vals1 r
  obtain rfl : u = Value.ref a := ru
  obtain ⟨e1, e2⟩ := refs_back rv fun x m => by
    obtain ⟨t, e, _⟩ := hxk x m
    exact ⟨t, e⟩
  refine SrtO.sorted_pairsO (k := fun u => k (backV u)) hl.isList (by rw [← rv.length]; exact hz) (fun v hv => ?_) fun h' d out h1 h2 kp hd hn => ?_
  · obtain ⟨t, rfl⟩ := e2 v hv
    have hm : V.ref t ∈ xs := by rw [e1]; exact List.mem_map.mpr ⟨_, hv, rfl⟩
    obtain ⟨t', e, ht⟩ := hxk _ hm
    cases e
    obtain ⟨its2, r2, ⟨o, ho, hc, n, hd⟩, _⟩ := I.tuple ht
    obtain ⟨u1, u2, rfl, ri, rj⟩ := vals2 r2
    obtain ⟨t1, rfl⟩ := ri
    obtain ⟨t2, rfl⟩ := rj
    exact ⟨t, o, t1, t2, n, rfl, ho, hc, hd⟩
  · have h3 : ∀ u ∈ out, ∃ a, u = Value.ref a := fun u hu => e2 u (h2.perm.mem_iff.mp hu)
    obtain ⟨n, hn⟩ := hn
    have hb : SrtO.Stb (ltP k) (out.map backV) xs := by
      rw [e1]
      exact SrtO.Stb.map (ltP_swo k) backV h2
    refine ⟨.ref d, upd H d (.lst (out.map backV)), I.laid (t' := s.toks) kp hd ⟨?_, out, n, vals_back h3, hn⟩, rfl, q _ d ?_ (I.hok.fresh hd)⟩
    · rw [hb.len]; exact hz
    · have pk : ∀ l : List V, (∀ x ∈ l, x ∈ xs) → Paired (fun x p => keyV H X.K x p) l (l.map k) := fun l => by
        induction l with
        | nil => intro _; exact .nil
        | cons x l ih => intro hl; exact .cons (hxk x (hl x List.mem_cons_self)) (ih fun y hy => hl y (List.mem_cons_of_mem _ hy))
      have e3 := sort_pairs hb.perm (SrtO.srtd_map h1)
      have e4 : xs.map k = ps := Paired.map_eq hx hk
      rw [e4] at e3
      rw [← e3]
      exact pk _ fun x hm => hb.perm.mem_iff.1 hm
end
end VS
end

section
set_option autoImplicit false
set_option linter.all false
/-! VBi2: calls of built-in functions. -/
namespace VS
open PySem PySem.Spec PyProof.Rows L2

section
variable {K : PySem.W.Frag} {P : Addr → Prop} {H H' : Hp} {X : Cx} {x : V} {d : D}
def RpTL (K : PySem.W.Frag) (P : Addr → Prop) (H : Hp) : List D → List V → Prop
  | [], xs => xs = []
  | d :: ds, xs => ∃ x xs', xs = x :: xs' ∧ RpT K P H d x ∧ RpTL K P H ds xs'
/-- by what it gives of plain data -/
def rL (K : PySem.W.Frag) (g : List D → Option (Ow × D)) : List V → Hp → VK → Prop := fun xs H Q => ∃ P ds o d, RpTL K P H ds xs ∧ g ds = some (o, d) ∧ ∀ v H', Grow H H' → New K P H H' o d v → Q v H'
theorem RpTL.one {d : D} {xs : List V} (h : RpTL K P H [d] xs) : ∃ x, xs = [x] ∧ RpT K P H d x := by
  obtain ⟨x, xs', rfl, q, e⟩ := h
  have e : xs' = [] := e
  exact ⟨x, by rw [e], q⟩
theorem RpTL.two {d d' : D} {xs : List V} (h : RpTL K P H [d, d'] xs) : ∃ x y, xs = [x, y] ∧ RpT K P H d x ∧ RpT K P H d' y := by
  obtain ⟨x, xs', rfl, q, h⟩ := h
  obtain ⟨y, rfl, q2⟩ := RpTL.one h
  exact ⟨x, y, rfl, q, q2⟩
theorem maxI_spec : ∀ {is : List Int} {m : Int}, maxI is = some m → ∀ m', m' ∈ is → (∀ y ∈ is, y ≤ m') → m' = m
  | [], _, e => by simp [maxI] at e
  | x :: xs, m, e => by
    simp only [maxI, Option.some.injEq] at e
    have key : ∀ (l : List Int) (b : Int), let r := l.foldl (fun b y => if b < y then y else b) b; (r = b ∨ r ∈ l) ∧ b ≤ r ∧ ∀ y ∈ l, y ≤ r := by
      intro l
      induction l with
      | nil => intro b; exact ⟨.inl rfl, Int.le_refl _, fun y h => absurd h (by simp)⟩
      | cons y l ih =>
        intro b
        simp only [List.foldl_cons]
        obtain ⟨h1, h2, h3⟩ := ih (if b < y then y else b)
        refine ⟨?_, ?_, fun z hz => ?_⟩
        · rcases h1 with h1 | h1
          · rw [h1]
            split
            · exact .inr List.mem_cons_self
            · exact .inl rfl
          · exact .inr (List.mem_cons_of_mem _ h1)
        · refine Int.le_trans ?_ h2
          split <;> omega
        · rcases List.mem_cons.1 hz with rfl | hz
          · refine Int.le_trans ?_ h2
            split <;> omega
          · exact h3 z hz
    intro m' h1 h2
    have k := key xs x
    rw [e] at k
    obtain ⟨k1, k2, k3⟩ := k
    have a : m ≤ m' := by
      rcases k1 with k1 | k1
      · rw [k1]; exact h2 x List.mem_cons_self
      · exact h2 m (List.mem_cons_of_mem _ k1)
    have b : m' ≤ m := by
      rcases List.mem_cons.1 h1 with rfl | h1
      · exact k2
      · exact k3 _ h1
    omega
theorem minI_spec : ∀ {is : List Int} {m : Int}, minI is = some m → ∀ m', m' ∈ is → (∀ y ∈ is, m' ≤ y) → m' = m
  | [], _, e => by simp [minI] at e
  | x :: xs, m, e => by
    simp only [minI, Option.some.injEq] at e
    have key : ∀ (l : List Int) (b : Int), let r := l.foldl (fun b y => if y < b then y else b) b; (r = b ∨ r ∈ l) ∧ r ≤ b ∧ ∀ y ∈ l, r ≤ y := by
      intro l
      induction l with
      | nil => intro b; exact ⟨.inl rfl, Int.le_refl _, fun y h => absurd h (by simp)⟩
      | cons y l ih =>
        intro b
        simp only [List.foldl_cons]
        obtain ⟨h1, h2, h3⟩ := ih (if y < b then y else b)
        refine ⟨?_, ?_, fun z hz => ?_⟩
        · rcases h1 with h1 | h1
          · rw [h1]
            split
            · exact .inr List.mem_cons_self
            · exact .inl rfl
          · exact .inr (List.mem_cons_of_mem _ h1)
        · refine Int.le_trans h2 ?_
          split <;> omega
        · rcases List.mem_cons.1 hz with rfl | hz
          · refine Int.le_trans h2 ?_
            split <;> omega
          · exact h3 z hz
    intro m' h1 h2
    have k := key xs x
    rw [e] at k
    obtain ⟨k1, k2, k3⟩ := k
    have a : m' ≤ m := by
      rcases k1 with k1 | k1
      · rw [k1]; exact h2 x List.mem_cons_self
      · exact h2 m (List.mem_cons_of_mem _ k1)
    have b : m ≤ m' := by
      rcases List.mem_cons.1 h1 with rfl | h1
      · exact k2
      · exact k3 _ h1
    omega
theorem maxI_pos {is : List Int} {m : Int} (h : maxI is = some m) : 0 < is.length := by cases is <;> simp [maxI] at h ⊢
theorem minI_pos {is : List Int} {m : Int} (h : minI is = some m) : 0 < is.length := by cases is <;> simp [minI] at h ⊢
theorem seqD_rp {a : D} {ds : List D} (e : seqD a = some ds) (h : RpT K P H a x) : ∃ p vs, x = .ref p ∧ (Rd H p (.lst vs) ∨ SqT K H p vs) ∧ RpL K P H ds vs ∧ (a = .lst ds ∧ Rd H p (.lst vs) ∨ a = .tup ds ∧ SqT K H p vs) := by
  cases a <;> simp only [seqD, reduceCtorEq] at e
  · cases e
    obtain ⟨p, vs, e, r, l⟩ := h.tup
    exact ⟨p, vs, e, .inr r, l, .inr ⟨rfl, r⟩⟩
  · cases e
    obtain ⟨p, vs, e, r, l⟩ := h.lst
    exact ⟨p, vs, e, .inl r, l, .inl ⟨rfl, r⟩⟩
theorem bi_one {b : Bi} {as : List D} {v : Ow × D} {id : List V} (e : biD b as = some v) (h : RpTL K P H as id) : (∃ a, as = [a]) ∨ ∃ a a', as = [a, a'] := by
  cases as with
  | nil => simp [biD] at e
  | cons a r =>
    cases r with
    | nil => exact .inl ⟨a, rfl⟩
    | cons a' r =>
      cases r with
      | nil => exact .inr ⟨a, a', rfl⟩
      | cons => simp [biD] at e
theorem bc_abs : CallR X (.builtin "abs") (rL X.K (biD .abs)) := by
  rintro pins s σ H xs us Q I r ⟨P, ds, o, d, h, e, q⟩
  rcases bi_one e h with ⟨a, rfl⟩ | ⟨a, a', rfl⟩
  · have hx := h.one
    clear h
    obtain ⟨x, rfl, h⟩ := hx
    cases a <;> simp only [biD, reduceCtorEq] at e
    cases e
    exact call_abs pins s σ H [x] us Q I r ⟨_, by rw [h.int], q _ _ (Grow.refl H) newI⟩
  · simp [biD] at e
theorem bc_int : CallR X (.type "int") (rL X.K (biD .int)) := by
  rintro pins s σ H xs us Q I r ⟨P, ds, o, d, h, e, q⟩
  rcases bi_one e h with ⟨a, rfl⟩ | ⟨a, a', rfl⟩
  · have hx := h.one
    clear h
    obtain ⟨x, rfl, h⟩ := hx
    cases a <;> simp only [biD, reduceCtorEq] at e
    · cases e
      exact call_int1 pins s σ H [x] us Q I r (.inr ⟨_, by rw [h.bl], q _ _ (Grow.refl H) newI⟩)
    · cases e
      exact call_int1 pins s σ H [x] us Q I r (.inl ⟨_, by rw [h.int], q _ _ (Grow.refl H) newI⟩)
  · simp [biD] at e
theorem bc_str : CallR X (.type "str") (rL X.K (biD .str)) := by
  rintro pins s σ H xs us Q I r ⟨P, ds, o, d, h, e, q⟩
  rcases bi_one e h with ⟨a, rfl⟩ | ⟨a, a', rfl⟩
  · have hx := h.one
    clear h
    obtain ⟨x, rfl, h⟩ := hx
    cases a <;> simp only [biD, reduceCtorEq] at e
    split at e <;> cases e
    rename_i hz
    refine call_str_int pins s σ H [x] us Q I r ⟨_, by rw [h.int], of_decide_eq_true hz, ?_⟩
    rw [int_tx]
    exact q _ _ (Grow.refl H) newT
  · simp [biD] at e
theorem bc_len : CallR X (.builtin "len") (rL X.K (biD .len)) := by
  rintro pins s σ H xs us Q I r ⟨P, ds, o, d, h, e, q⟩
  rcases bi_one e h with ⟨a, rfl⟩ | ⟨a, a', rfl⟩
  · have hx := h.one
    clear h
    obtain ⟨x, rfl, h⟩ := hx
    simp only [biD, Option.map_eq_some_iff] at e
    obtain ⟨n, e1, e2⟩ := e
    cases e2
    refine call_len pins s σ H [x] us Q I r ⟨x, n, rfl, ?_, q _ _ (Grow.refl H) newI⟩
    cases a <;> simp only [lenD, reduceCtorEq] at e1
    · split at e1 <;> cases e1
      rename_i hz
      rw [h.str]
      exact ⟨by rw [tx_length]; exact sizeLine_few hz, by rw [tx_length]⟩
    · cases e1
      obtain ⟨p, vs, e, r, l⟩ := h.tup
      rw [e]
      exact .inr ⟨vs, r, l.length.symm⟩
    · cases e1
      obtain ⟨p, vs, e, r, l⟩ := h.lst
      rw [e]
      exact .inl ⟨vs, .inl r, l.length.symm⟩
  · simp [biD] at e
theorem bi_seq {b : Bi} {a : D} {v : Ow × D} (hb : b = .sum ∨ b = .min ∨ b = .max ∨ b = .list ∨ b = .tuple) (e : biD b [a] = some v) : ∃ ds, seqD a = some ds ∧ consD b ds = some v := by
  rcases hb with rfl | rfl | rfl | rfl | rfl <;> simpa only [biD, Option.bind_eq_some_iff] using e
theorem bc_sum (hc : X.calm = true) : CallR X (.builtin "sum") (rL X.K (biD .sum)) := by
  rintro pins s σ H xs us Q I r ⟨P, ds, o, d, h, e, q⟩
  rcases bi_one e h with ⟨a, rfl⟩ | ⟨a, a', rfl⟩
  · have hx := h.one
    clear h
    obtain ⟨x, rfl, h⟩ := hx
    obtain ⟨ds, e1, e⟩ := bi_seq (by simp) e
    obtain ⟨p, vs, rfl, _, l, w⟩ := seqD_rp e1 h
    simp only [consD, Option.map_eq_some_iff] at e
    obtain ⟨is, e2, e⟩ := e
    cases e
    have ev := intsD_rp e2 l
    subst ev
    rcases w with ⟨_, w⟩ | ⟨_, w⟩
    · exact cr_sum hc pins s σ H _ us Q I r ⟨p, is, rfl, .inl w, q _ _ (Grow.refl H) newI⟩
    · obtain ⟨its, rv, ht, _⟩ := I.tuple w
      rw [Vals.ref1 r]
      exact sumT_raw (I.ok.hd hc) ht rv.ints fun h' tk t' hk => ⟨.int _, H, I.kept hk, ⟨_, rfl⟩, q _ _ (Grow.refl H) newI⟩
  · simp [biD] at e
theorem bc_min (hc : X.calm = true) : CallR X (.builtin "min") (rL X.K (biD .min)) := by
  rintro pins s σ H xs us Q I r ⟨P, ds, o, d, h, e, q⟩
  rcases bi_one e h with ⟨a, rfl⟩ | ⟨a, a', rfl⟩
  · have hx := h.one
    clear h
    obtain ⟨x, rfl, h⟩ := hx
    obtain ⟨ds, e1, e⟩ := bi_seq (by simp) e
    obtain ⟨p, vs, rfl, _, l, w⟩ := seqD_rp e1 h
    simp only [consD, Option.bind_eq_some_iff, Option.map_eq_some_iff] at e
    obtain ⟨is, e2, m, e3, e⟩ := e
    cases e
    have ev := intsD_rp e2 l
    subst ev
    rcases w with ⟨_, w⟩ | ⟨_, w⟩
    · refine cr_min hc pins s σ H _ us Q I r ⟨p, is, rfl, .inl w, minI_pos e3, fun m' h1 h2 => ?_⟩
      rw [minI_spec e3 m' h1 h2]
      exact q _ _ (Grow.refl H) newI
    · obtain ⟨its, rv, ht, _⟩ := I.tuple w
      rw [Vals.ref1 r]
      refine minT_raw (I.ok.hd hc) ht rv.ints (minI_pos e3) fun h' tk m' t' hk h1 h2 => ⟨.int _, H, I.kept hk, ⟨_, rfl⟩, ?_⟩
      rw [minI_spec e3 m' h1 h2]
      exact q _ _ (Grow.refl H) newI
  · have hx := h.two
    clear h
    obtain ⟨x, y, rfl, h1, h2⟩ := hx
    cases a <;> cases a' <;> simp only [biD, reduceCtorEq] at e
    cases e
    exact call_min2 hc pins s σ H _ us Q I r ⟨_, _, by rw [h1.int, h2.int], q _ _ (Grow.refl H) newI⟩
theorem bc_max (hc : X.calm = true) : CallR X (.builtin "max") (rL X.K (biD .max)) := by
  rintro pins s σ H xs us Q I r ⟨P, ds, o, d, h, e, q⟩
  rcases bi_one e h with ⟨a, rfl⟩ | ⟨a, a', rfl⟩
  · have hx := h.one
    clear h
    obtain ⟨x, rfl, h⟩ := hx
    obtain ⟨ds, e1, e⟩ := bi_seq (by simp) e
    obtain ⟨p, vs, rfl, _, l, w⟩ := seqD_rp e1 h
    simp only [consD, Option.bind_eq_some_iff, Option.map_eq_some_iff] at e
    obtain ⟨is, e2, m, e3, e⟩ := e
    cases e
    have ev := intsD_rp e2 l
    subst ev
    rcases w with ⟨_, w⟩ | ⟨_, w⟩
    · refine cr_max hc pins s σ H _ us Q I r ⟨p, is, rfl, .inl w, maxI_pos e3, fun m' h1 h2 => ?_⟩
      rw [maxI_spec e3 m' h1 h2]
      exact q _ _ (Grow.refl H) newI
    · obtain ⟨its, rv, ht, _⟩ := I.tuple w
      rw [Vals.ref1 r]
      refine maxT_raw (I.ok.hd hc) ht rv.ints (maxI_pos e3) fun h' tk m' t' hk h1 h2 => ⟨.int _, H, I.kept hk, ⟨_, rfl⟩, ?_⟩
      rw [maxI_spec e3 m' h1 h2]
      exact q _ _ (Grow.refl H) newI
  · have hx := h.two
    clear h
    obtain ⟨x, y, rfl, h1, h2⟩ := hx
    cases a <;> cases a' <;> simp only [biD, reduceCtorEq] at e
    cases e
    exact call_max2 hc pins s σ H _ us Q I r ⟨_, _, by rw [h1.int, h2.int], q _ _ (Grow.refl H) newI⟩
theorem rpL_keys : ∀ {ps : List (Int × Int)} {ys : List V}, Paired (fun x p => keyV H K x p) ys ps → RpL K P H (ps.map fun p => .tup [.int p.1, .int p.2]) ys
  | _, _, .nil => RpL.nil
  | _, _, .cons ⟨t, e, h⟩ r => by
    subst e
    exact RpL.cons (rpTup h (.cons rp_int (.cons rp_int .nil))) (rpL_keys r)
theorem sortV_some {ds es : List D} (e : sortV ds = some es) : (∃ is, intsD ds = some is ∧ es = (sortS ltI is).map .int) ∨ ∃ ps, pairsI ds = some ps ∧ es = (sortS ltP2 ps).map fun p => .tup [.int p.1, .int p.2] := by
  unfold sortV at e
  cases h : intsD ds with
  | some is => rw [h] at e; cases e; exact .inl ⟨is, rfl, rfl⟩
  | none =>
    rw [h] at e
    dsimp only at e
    cases h2 : pairsI ds with
    | some ps => rw [h2] at e; cases e; exact .inr ⟨ps, rfl, rfl⟩
    | none => rw [h2] at e; cases e
theorem bc_sorted : CallR X (.builtin "sorted") (rL X.K (biD .sorted)) := by
  rintro pins s σ H xs us Q I r ⟨P, ds, o, d, h, e, q⟩
  rcases bi_one e h with ⟨a, rfl⟩ | ⟨a, a', rfl⟩
  · have hx := h.one
    clear h
    obtain ⟨x, rfl, h⟩ := hx
    cases a <;> simp only [biD, reduceCtorEq] at e
    simp only [consD, Option.map_eq_some_iff] at e
    obtain ⟨es, e1, e⟩ := e
    cases e
    obtain ⟨p, vs, rfl, w, l⟩ := h.lst
    rcases sortV_some e1 with ⟨is, e2, rfl⟩ | ⟨ps, e2, rfl⟩
    · have ev := intsD_rp e2 l
      subst ev
      refine cr_sortedI pins s σ H _ us Q I r ⟨p, is, rfl, .inl w, fun ns' p' h1 h2 hp => ?_⟩
      rw [sort_ints h1 h2]
      exact q _ _ (Grow.new hp) (newLst (rpL_ints _) hp)
    · exact cr_sortedPT pins s σ H _ us Q I r ⟨p, vs, ps, rfl, .inl w, pairsI_rp e2 l, fun ys p' h1 hp => q _ _ (Grow.new hp) (newLst (rpL_keys h1) hp)⟩
  · simp [biD] at e
theorem bc_list : CallR X (.type "list") (rL X.K (biD .list)) := by
  rintro pins s σ H xs us Q I r ⟨P, ds, o, d, h, e, q⟩
  rcases bi_one e h with ⟨a, rfl⟩ | ⟨a, a', rfl⟩
  · have hx := h.one
    clear h
    obtain ⟨x, rfl, h⟩ := hx
    obtain ⟨ds, e1, e⟩ := bi_seq (by simp) e
    obtain ⟨p, vs, rfl, w0, l, w⟩ := seqD_rp e1 h
    simp only [consD] at e
    cases e
    exact call_list_of pins s σ H _ us Q I r ⟨p, vs, rfl, w0.imp .inl id, fun p hp => q _ _ (Grow.new hp) (newLst l hp)⟩
  · simp [biD] at e
theorem bc_tuple : CallR X (.type "tuple") (rL X.K (biD .tuple)) := by
  rintro pins s σ H xs us Q I r ⟨P, ds, o, d, h, e, q⟩
  rcases bi_one e h with ⟨a, rfl⟩ | ⟨a, a', rfl⟩
  · have hx := h.one
    clear h
    obtain ⟨x, rfl, h⟩ := hx
    obtain ⟨ds, e1, e⟩ := bi_seq (by simp) e
    obtain ⟨p, vs, rfl, _, l, w⟩ := seqD_rp e1 h
    simp only [consD] at e
    cases e
    refine call_tuple_of pins s σ H _ us Q I r ⟨p, vs, rfl, ?_⟩
    rcases w with ⟨_, w⟩ | ⟨_, w⟩
    · exact .inl ⟨.inl w, fun p hp => q _ _ (Grow.new hp) (newTup l hp)⟩
    · exact .inr ⟨w, q _ _ (Grow.refl H) (newVal (rpTup w l))⟩
  · simp [biD] at e
end
end VS
end

section
set_option autoImplicit false
set_option linter.all false
/-! VCall: calls of built-in functions, as expressions; texts of parts. -/
namespace VS
open PySem PySem.Spec PyProof.Rows L2

def noStar : Expr → Bool
  | .Starred .. => false
  | _ => true
theorem star_cons {e : Expr} (h : noStar e = true) (es : List Expr) (env : Env) : starEach (e :: es) env = (false, eval e env) :: starEach es env := by
  cases e <;> first | rfl | simp [noStar] at h
theorem star_any (pos : Pos) (env : Env) : ∀ {es : List Expr}, es.all noStar = true → (backTo pos (starEach es env)).any (·.1) = false
  | [], _ => by simp [starEach, backTo]
  | e :: es, h => by
    have h1 := all_eq h
    rw [star_cons h1.1]
    have := star_any pos env h1.2
    simp [backTo] at this ⊢
    exact this
section
variable {C : RC} {X : Cx} {W : WX} {α : Type} {Z : Addr → Prop} {ρ ρ' : Rho} {σ : L2.St} {H H' : Hp}
theorem Rel.useL {Z' : Addr → Prop} (r : Rel C Z' ρ' σ H') (hz : ∀ a, Z a → Z' a) : ∀ {os : List Opd} {xs : List V} {ds : List D}, OpdsR C Z' ρ' σ H' os xs → resL ρ' os = some ds → RpTL C.K (Av Z ρ' σ) H' ds xs
  | [], xs, ds, q, e => by
    simp only [resL, Option.some.injEq] at e
    subst e; exact q
  | o :: os, xs, ds, ⟨x, xs', ex, q, t⟩, e => by
    simp only [resL] at e
    cases e1 : res ρ' o with
    | none => rw [e1] at e; cases e
    | some d =>
      rw [e1] at e
      simp only [Option.map_eq_some_iff] at e
      obtain ⟨ds', e2, rfl⟩ := e
      exact ⟨x, xs', ex, r.use hz q e1, Rel.useL r hz t e2⟩
theorem imp_cb {ms : Rho → R (List Opd)} {g : List D → Option (Ow × D)} (hk : C.K = X.K) {Q : VK} (h : tX C W (fun r => (ms r).bind fun os r' => opL os g r') (GE C) σ H Q) : tCB (rL X.K g) (tL C W ms (GL C)) σ H Q := by
  obtain ⟨Z, ρ, r0, h⟩ := h
  refine Left.opds (W := W) (G := GE C) (Z := Z) (ρ := ρ) (H := H) (Q := Q) (f := fun os r' => opL os g r') (.start r0) h fun os ρ1 Z1 xs H1 a1 b1 q1 h1 => ?_
  unfold opL at h1
  cases e1 : resL ρ1 os with
  | none => rw [e1] at h1; exact h1.elim
  | some ds =>
    rw [e1] at h1
    dsimp only at h1
    cases e2 : g ds with
    | none => rw [e2] at h1; exact h1.elim
    | some v =>
      rw [e2] at h1
      obtain ⟨o, d⟩ := v
      rw [← hk]
      exact ⟨_, ds, o, d, a1.rel.useL a1.ext.1 q1 e1, e2, fun v H2 gr n => h1 v H2 (a1.done gr n)⟩
theorem se_callB {x : PySem.Str} {p pos : Pos} {e : Expr} {es : List Expr} {id : String} {ms : Rho → R (List Opd)} {g : List D → Option (Ow × D)} (hk : C.K = X.K) (hc : CallR X (.builtin id) (rL X.K g)) (hg : Gl X x) (hm : X.mg x = none) (hv : bootBuiltins x = some (.builtin id))
    (hn : x ≠ "__name__") (hdb : (x == ("__debug__" : PySem.Str)) = false) (hs : (e :: es).all noStar = true) (ha : ST C X (e :: es) ms) : SE C X (.Call (.Name x p) (e :: es) [] pos) (fun r => (ms r).bind fun os r' => opL os g r') :=
  fun W tk => PE.imp (pe_callB hc hg hm hv (ha W tk) hn hdb (star_cons (all_eq hs).1 _ _) (star_any _ _ (all_eq hs).2)) fun σ H Q h => imp_cb hk h
theorem se_callT {x : PySem.Str} {p pos : Pos} {e : Expr} {es : List Expr} {T : String} {ms : Rho → R (List Opd)} {g : List D → Option (Ow × D)} (hk : C.K = X.K) (hc : CallR X (.type T) (rL X.K g)) (hg : Gl X x) (hm : X.mg x = none) (hv : bootBuiltins x = some (.type T))
    (hn : x ≠ "__name__") (hdb : (x == ("__debug__" : PySem.Str)) = false) (hs : (e :: es).all noStar = true) (ha : ST C X (e :: es) ms) : SE C X (.Call (.Name x p) (e :: es) [] pos) (fun r => (ms r).bind fun os r' => opL os g r') :=
  fun W tk => PE.imp (pe_callTy hc hg hm hv (ha W tk) hn hdb (star_cons (all_eq hs).1 _ _) (star_any _ _ (all_eq hs).2)) fun σ H Q h => imp_cb hk h
end
end VS
end

section
set_option autoImplicit false
set_option linter.all false
/-! VFst: f-strings. -/
namespace VS
open PySem PySem.Spec PyProof.Rows L2

section
variable {C : RC} {X : Cx} {W : WX} {α : Type} {Z : Addr → Prop} {ρ ρ' : Rho} {σ : L2.St} {H H' : Hp}
def tF (C : RC) (W : WX) (ev : Rho → R (List Nat)) : TE := fun σ H Q => ∃ Z ρ, Rel C Z ρ σ H ∧ match ev ρ with
  | .ok t ρ' => ∀ H', XPost C Z ρ σ H ρ' H' → Q (.str (tx t)) H'
  | .ex c ρ' => ∀ H', XPost C Z ρ σ H ρ' H' → W (C.cv c) none σ H'
  | .no => False
/-- a part of an f-string -/
def SF (C : RC) (X : Cx) (e : Expr) (ev : Rho → R (List Nat)) : Prop := ∀ W, Takes X W → PE X e (tF C W ev)
def evJ : List (Rho → R (List Nat)) → List Nat → Rho → R (List Nat)
  | [], acc, r => .ok acc r
  | m :: ms, acc, r => (m r).bind fun t r1 => if few (acc.length + t.length) then evJ ms (acc ++ t) r1 else .no
def fmtP (m : Rho → R Opd) (r : Rho) : R (List Nat) := (m r).bind fun o r1 => match (res r1 o).bind fmtD with
  | some t => .ok t r1
  | none => .no
theorem sf_str {s : List Nat} {j pos} : SF C X (.Constant (.str (tx s)) j pos) (fun r => .ok s r) := by
  intro W tk
  refine PE.imp pe_str ?_
  rintro σ H Q ⟨Z, ρ, r0, h⟩
  exact h H (.start r0)
theorem sf_fmt {e : Expr} {pos : Pos} {m : Rho → R Opd} (s : SO C X e m) : SF C X (.FormattedValue e (-1) none pos) (fmtP m) := by
  intro W tk
  refine PE.imp (pe_fmt (s W tk)) ?_
  rintro σ H Q ⟨Z, ρ, r0, h⟩
  refine ⟨Z, ρ, r0, ?_⟩
  unfold fmtP at h
  cases e0 : m ρ with
  | no => simp only [e0, R.bind] at h
  | ex c ρ1 => simp only [e0, R.bind] at h; exact h
  | ok o ρ1 =>
    simp only [e0, R.bind] at h
    rintro x H1 ⟨Z1, p⟩
    cases e1 : res ρ1 o with
    | none => rw [e1] at h; exact h.elim
    | some d =>
      rw [e1] at h
      have u := p.rel.use p.ext.1 p.opd e1
      simp only [Option.bind_some] at h
      cases ef : fmtD d with
      | none => rw [ef] at h; exact h.elim
      | some t =>
        rw [ef] at h
        cases d <;> simp only [fmtD, reduceCtorEq] at ef
        · split at ef <;> cases ef
          rename_i hz
          refine .inr ⟨_, u.int, of_decide_eq_true hz, ?_⟩
          rw [int_tx]
          exact h H1 p.mid.fin
        · split at ef <;> cases ef
          rename_i hz
          exact .inl ⟨_, u.str, by rw [tx_length]; exact sizeLine_few hz, h H1 p.mid.fin⟩
theorem imp_js : ∀ {es : List Expr} {ms : List (Rho → R (List Nat))}, Paired (fun e m => SF C X e m) es ms → Takes X W → ∃ ts, PJ X es ts ∧ ∀ acc Z ρ σ H Z0 ρ0 H0 (Q : PySem.Str → Hp → Prop), XPost C Z0 ρ0 σ H0 ρ H → Z = Z0 →
    (match evJ ms acc ρ with
      | .ok t ρ' => ∀ H', XPost C Z0 ρ0 σ H0 ρ' H' → Q (tx t) H'
      | .ex c ρ' => ∀ H', XPost C Z0 ρ0 σ H0 ρ' H' → W (C.cv c) none σ H'
      | .no => False) → tJs ts (tx acc) σ H Q
  | _, _, .nil, _ => ⟨[], .nil, fun acc Z ρ σ H Z0 ρ0 H0 Q a _ h => h H a⟩
  | _, _, .cons (a := e) (b := m) h r, tk => by
    obtain ⟨ts, pj, hi⟩ := imp_js r tk
    refine ⟨_, .cons (h W tk) pj, fun acc Z ρ σ H Z0 ρ0 H0 Q a ez h => ?_⟩
    subst ez
    refine ⟨Z, ρ, a.rel, ?_⟩
    simp only [evJ] at h
    cases e0 : m ρ with
    | no => simp only [e0, R.bind] at h
    | ex c ρ1 =>
      simp only [e0, R.bind] at h
      intro H1 p
      exact h H1 (a.mid.x p)
    | ok t ρ1 =>
      simp only [e0, R.bind] at h
      intro H1 p
      cases hz : few (acc.length + t.length) with
      | false => rw [hz] at h; exact h.elim
      | true =>
        rw [hz] at h
        refine ⟨tx t, rfl, ?_, ?_⟩
        · rw [tx_append, tx_length, List.length_append]; exact sizeLine_few hz
        · rw [tx_append]
          exact hi (acc ++ t) Z ρ1 σ H1 Z ρ0 H0 Q (a.mid.trans p.mid).fin rfl h
theorem se_fst {v1 v2 : Expr} {rest : List Expr} {pos : Pos} {ms : List (Rho → R (List Nat))} (h : Paired (fun e m => SF C X e m) (v1 :: v2 :: rest) ms) : SE C X (.JoinedStr (v1 :: v2 :: rest) pos) (fun r => (evJ ms [] r).bind fun t r1 => .ok (.val, .str t) r1) := by
  intro W tk
  obtain ⟨ts, pj, hi⟩ := imp_js (W := W) h tk
  refine PE.imp (pe_joined pj) ?_
  rintro σ H Q ⟨Z, ρ, r0, h⟩
  refine hi [] Z ρ σ H Z ρ H (fun out H1 => Q (.str out) H1) (.start r0) rfl ?_
  change Left C W (GE C) Z ρ σ H ((evJ ms [] ρ).bind fun t r1 => .ok (.val, .str t) r1) Q at h
  cases e0 : evJ ms [] ρ with
  | no => rw [e0] at h; exact h
  | ex c ρ1 => rw [e0] at h; exact h
  | ok t ρ1 =>
    rw [e0] at h
    intro H1 p
    exact h _ _ ⟨p.fr, p.mono, p.rel, by simp only [Rp]; rfl⟩
theorem se_fst1 {v1 : Expr} {pos : Pos} {m : Rho → R (List Nat)} (h : SF C X v1 m) : SE C X (.JoinedStr [v1] pos) (fun r => (evJ [m] [] r).bind fun t r1 => .ok (.val, .str t) r1) := by
  intro W tk
  refine PE.imp (pe_joined1 (h W tk)) ?_
  rintro σ H Q ⟨Z, ρ, r0, h⟩
  refine ⟨Z, ρ, r0, ?_⟩
  change Left C W (GE C) Z ρ σ H ((evJ [m] [] ρ).bind fun t r1 => .ok (.val, .str t) r1) Q at h
  simp only [evJ] at h
  cases e0 : m ρ with
  | no => simp only [e0, R.bind] at h; exact h
  | ex c ρ1 => simp only [e0, R.bind] at h; exact h
  | ok t ρ1 =>
    simp only [e0, R.bind] at h
    intro H1 p
    cases hz : few (([] : List Nat).length + t.length) with
    | false => rw [hz] at h; exact h.elim
    | true =>
      rw [hz] at h
      exact h _ _ ⟨p.fr, p.mono, p.rel, by simp only [Rp]; rfl⟩
end
end VS
end

section
set_option autoImplicit false
set_option linter.all false
/-! VStm: statements' judgement, stores. -/
namespace VS
open PySem PySem.Spec PyProof.Rows L2

/-- owned by a slot that is no argument's -/
def OwnL (ρ : Rho) (σ : L2.St) (a : Addr) : Prop := ∃ (i : Nat) (s : Slot), ρ[i]? = some (some s) ∧ s.f = .own ∧ s.p = false ∧ σ[i]? = some (some (.ref a))
theorem OwnL.own {ρ : Rho} {σ : L2.St} {a : Addr} (h : OwnL ρ σ a) : Own ρ σ a := let ⟨i, s, h1, h2, _, h3⟩ := h; ⟨i, s, h1, h2, h3⟩
/-- what a statement leaves as it was -/
structure SFr (ρ : Rho) (σ : L2.St) (H : Hp) (ρ' : Rho) (σ' : L2.St) (H' : Hp) : Prop where
  fr : Fr ρ σ H H'
  len : ρ'.length = ρ.length
  priv : ∀ a, Priv ρ' σ' a → Priv ρ σ a ∨ H a = none
  own : ∀ a, Own ρ' σ' a → Own ρ σ a ∨ H a = none
  ownl : ∀ a, OwnL ρ' σ' a → OwnL ρ σ a ∨ H a = none
  par : ∀ (i : Nat) (s' : Slot), ρ'[i]? = some (some s') → s'.p = true → ∃ s, ρ[i]? = some (some s) ∧ s.p = true ∧ σ'[i]? = σ[i]? ∧ (s'.f = .own → s.f = .own) ∧ (s'.f = .lent → s.f = .lent ∨ s.f = .own) ∧ (s'.f = .fns ↔ s.f = .fns) ∧ (s.f ≠ .own → s'.d = s.d)
  lnt : ∀ (i : Nat) (s' : Slot), ρ'[i]? = some (some s') → s'.f = .lent → ∃ s, ρ[i]? = some (some s) ∧ s.f = .lent ∧ s'.d = s.d ∧ s'.p = s.p ∧ σ'[i]? = σ[i]?
theorem SFr.refl (ρ : Rho) (σ : L2.St) (H : Hp) : SFr ρ σ H ρ σ H := ⟨Fr.refl _ _ _, rfl, fun _ h => .inl h, fun _ h => .inl h, fun _ h => .inl h, fun i s h p => ⟨s, h, p, rfl, id, .inl, Iff.rfl, fun _ => rfl⟩, fun i s h f => ⟨s, h, f, rfl, rfl, rfl⟩⟩
section
variable {C : RC} {X : Cx} {W : WX} {Z : Addr → Prop} {ρ ρ1 ρ2 ρ' : Rho} {σ σ1 σ2 σ' : L2.St} {H H1 H2 H' : Hp}
theorem SFr.trans (x : SFr ρ σ H ρ1 σ1 H1) (y : SFr ρ1 σ1 H1 ρ2 σ2 H2) : SFr ρ σ H ρ2 σ2 H2 where
  fr := ⟨fun a o h n w => y.fr.kp a o (x.fr.kp a o h n w) n fun z => (x.own a z).elim w fun z => (by rw [h] at z; exact nomatch z), fun a o h => let ⟨o1, h1⟩ := x.fr.dom a o h; y.fr.dom a o1 h1⟩
  len := y.len.trans x.len
  priv := fun a h => (y.priv a h).elim (x.priv a) fun z => .inr (x.fr.none z)
  own := fun a h => (y.own a h).elim (x.own a) fun z => .inr (x.fr.none z)
  ownl := fun a h => (y.ownl a h).elim (x.ownl a) fun z => .inr (x.fr.none z)
  par := fun i s2 h2 p2 => by
    obtain ⟨s1, h1, p1, e1, f1, g1, n1, d1⟩ := y.par i s2 h2 p2
    obtain ⟨s, h, p, e, f, g, n, d⟩ := x.par i s1 h1 p1
    refine ⟨s, h, p, e1.trans e, fun z => f (f1 z), fun z => ?_, n1.trans n, fun z => ?_⟩
    · rcases g1 z with z | z
      · exact g z
      · exact .inr (f z)
    · exact (d1 fun w => z (f w)).trans (d z)
  lnt := fun i s2 h2 f2 => by
    obtain ⟨s1, h1, f1, d1, p1, e1⟩ := y.lnt i s2 h2 f2
    obtain ⟨s, h, f, d, p, e⟩ := x.lnt i s1 h1 f1
    exact ⟨s, h, f, d1.trans d, p1.trans p, e1.trans e⟩
/-- an expression's -/
theorem Mono.ownl (m : Mono ρ ρ') {a : Addr} (h : OwnL ρ' σ a) : OwnL ρ σ a := by
  obtain ⟨i, s', h1, h2, h3, h4⟩ := h
  obtain ⟨s, e, p, f, _⟩ := m.bk i s' h1
  refine ⟨i, s, e, ?_, by rw [← p]; exact h3, h4⟩
  rcases f with f | ⟨f, _⟩
  · rw [← f]; exact h2
  · rw [f] at h2; cases h2
theorem SFr.exp (f : Fr ρ σ H H') (m : Mono ρ ρ') : SFr ρ σ H ρ' σ H' := by
  refine ⟨f, m.len, fun a h => .inl (m.priv h), fun a h => .inl (m.own h), fun a h => .inl (m.ownl h), fun i s' h p => ?_, fun i s' h f' => ?_⟩
  · obtain ⟨s, e, q, g, d⟩ := m.bk i s' h
    refine ⟨s, e, by rw [← q]; exact p, rfl, fun z => ?_, fun z => ?_, ?_, d⟩
    · rcases g with g | ⟨g, _⟩
      · rw [← g]; exact z
      · rw [g] at z; cases z
    · rcases g with g | ⟨g, _⟩
      · rw [← g]; exact .inl z
      · rw [g] at z; cases z
    · rcases g with g | ⟨g, g2⟩
      · rw [g]
      · rw [g]; exact ⟨fun z => (by cases z), fun z => absurd z g2⟩
  · obtain ⟨s, e, q, g, d⟩ := m.bk i s' h
    rcases g with g | ⟨g, _⟩
    · exact ⟨s, e, by rw [← g]; exact f', d (by rw [← g, f']; decide), q, rfl⟩
    · rw [g] at f'; cases f'
theorem XPost.sfr (p : XPost C Z ρ σ H ρ' H') : SFr ρ σ H ρ' σ H' := .exp p.fr p.mono
section
variable (C Z ρ σ H)
structure SPost (ρ' : Rho) (σ' : L2.St) (H' : Hp) : Prop where
  sfr : SFr ρ σ H ρ' σ' H'
  rel : Rel C Z ρ' σ' H'
/-- what is returned -/
def RRes (ρ' : Rho) (σ' : L2.St) (o : Ow) (d : D) (v : V) (H' : Hp) : Prop := match o with
  | .val => Rel C Z ρ' σ' H' ∧ Rp C.K (Av Z ρ' σ') H' d v
  | .own => ∃ a, v = .ref a ∧ (OwnL ρ σ a ∨ H a = none) ∧ Rel C (zAnd Z a) ρ' σ' H' ∧ Top C.K (Av (zAnd Z a) ρ' σ') H' d a
  | .one => ∃ a b d1, v = .ref a ∧ d = .lst [d1] ∧ H a = none ∧ H b = none ∧ a ≠ b ∧ H' a = some (.lst [.ref b]) ∧ Rel C (zAnd (zAnd Z a) b) ρ' σ' H' ∧ Top C.K (Av (zAnd (zAnd Z a) b) ρ' σ') H' d1 b
structure RPost (ρ' : Rho) (σ' : L2.St) (o : Ow) (d : D) (v : V) (H' : Hp) : Prop where
  sfr : SFr ρ σ H ρ' σ' H'
  res : RRes C Z ρ σ H ρ' σ' o d v H'
/-- a statement ended so -/
def OutS (W : WX) (q : SR) (D : Ends) : Prop := match q with
  | .nx ρ' => ∀ σ' H', SPost C Z ρ σ H ρ' σ' H' → D.nx σ' H'
  | .rt o d ρ' => ∀ v σ' H', RPost C Z ρ σ H ρ' σ' o d v H' → D.rt v H'
  | .bk ρ' => ∀ σ' H', SPost C Z ρ σ H ρ' σ' H' → D.bk σ' H'
  | .ct ρ' => ∀ σ' H', SPost C Z ρ σ H ρ' σ' H' → D.ct σ' H'
  | .ex c ρ' => ∀ σ' H', SPost C Z ρ σ H ρ' σ' H' → W (C.cv c) none σ' H'
  | .no => False
end
theorem SPost.start (r : Rel C Z ρ σ H) : SPost C Z ρ σ H ρ σ H := ⟨.refl _ _ _, r⟩
theorem SPost.trans (x : SPost C Z ρ σ H ρ1 σ1 H1) (y : SPost C Z ρ1 σ1 H1 ρ2 σ2 H2) : SPost C Z ρ σ H ρ2 σ2 H2 := ⟨x.sfr.trans y.sfr, y.rel⟩
theorem SPost.of (p : XPost C Z ρ σ H ρ' H') : SPost C Z ρ σ H ρ' σ H' := ⟨p.sfr, p.rel⟩
theorem RPost.after {o : Ow} {d : D} {v : V} (x : SFr ρ σ H ρ1 σ1 H1) (y : RPost C Z ρ1 σ1 H1 ρ2 σ2 o d v H2) : RPost C Z ρ σ H ρ2 σ2 o d v H2 := by
  refine ⟨x.trans y.sfr, ?_⟩
  have q := y.res
  cases o with
  | val => exact q
  | own =>
    obtain ⟨a, e, n, r⟩ := q
    exact ⟨a, e, n.elim (x.ownl a) fun z => .inr (x.fr.none z), r⟩
  | one =>
    obtain ⟨a, b, d1, e, e1, na, nb, r⟩ := q
    exact ⟨a, b, d1, e, e1, x.fr.none na, x.fr.none nb, r⟩
theorem OutS.after {q : SR} {D : Ends} (x : SFr ρ σ H ρ1 σ1 H1) (h : OutS C Z ρ σ H W q D) : OutS C Z ρ1 σ1 H1 W q D := by
  cases q with
  | nx r => exact fun σ' H' p => h σ' H' ⟨x.trans p.sfr, p.rel⟩
  | rt o d r => exact fun v σ' H' p => h v σ' H' (p.after x)
  | bk r => exact fun σ' H' p => h σ' H' ⟨x.trans p.sfr, p.rel⟩
  | ct r => exact fun σ' H' p => h σ' H' ⟨x.trans p.sfr, p.rel⟩
  | ex c r => exact fun σ' H' p => h σ' H' ⟨x.trans p.sfr, p.rel⟩
  | no => exact h
def tS (C : RC) (W : WX) (ev : Rho → SR) : TS := fun D σ H => ∃ Z ρ, Rel C Z ρ σ H ∧ OutS C Z ρ σ H W (ev ρ) D
/-- THE JUDGEMENT of statements -/
def SS (C : RC) (X : Cx) (s : Stmt) (ev : Rho → SR) : Prop := ∀ W, Takes X W → PS X s (tS C W ev)
def SSs (C : RC) (X : Cx) (ss : List Stmt) (ev : Rho → SR) : Prop := ∀ W, Takes X W → PSs X ss (tS C W ev)
theorem PS.imp {s : Stmt} {t t' : TS} (h : PS X s t) (i : ∀ D σ H, t' D σ H → t D σ H) : PS X s t' := ⟨fun pins s σ H D I q => h.run pins s σ H D I (i D σ H q)⟩
theorem PSs.imp {s : List Stmt} {t t' : TS} (h : PSs X s t) (i : ∀ D σ H, t' D σ H → t D σ H) : PSs X s t' := ⟨fun pins s σ H D I q => h.run pins s σ H D I (i D σ H q)⟩
def seqS (m n : Rho → SR) (r : Rho) : SR := match m r with
  | .nx r' => n r'
  | q => q
theorem ss_nil : SSs C X [] (fun r => .nx r) := fun W tk => PSs.imp pss_nil fun D σ H ⟨Z, ρ, r, h⟩ => h σ H (.start r)
theorem ss_cons {s : Stmt} {ss : List Stmt} {m n : Rho → SR} (a : SS C X s m) (b : SSs C X ss n) : SSs C X (s :: ss) (seqS m n) := by
  intro W tk
  refine PSs.imp (pss_cons (a W tk) (b W tk)) ?_
  rintro D σ H ⟨Z, ρ, r, h⟩
  refine ⟨Z, ρ, r, ?_⟩
  unfold seqS at h
  cases e : m ρ with
  | nx r1 =>
    rw [e] at h
    exact fun σ1 H1 p => ⟨Z, r1, p.rel, OutS.after p.sfr h⟩
  | rt o d r1 => rw [e] at h; exact h
  | bk r1 => rw [e] at h; exact h
  | ct r1 => rw [e] at h; exact h
  | ex c r1 => rw [e] at h; exact h
  | no => rw [e] at h; exact h
theorem ss_pass {pos : Pos} : SS C X (.Pass pos) (fun r => .nx r) := fun W tk => PS.imp ps_pass fun D σ H ⟨Z, ρ, r, h⟩ => h σ H (.start r)
theorem ss_brk {pos : Pos} : SS C X (.Break pos) (fun r => .bk r) := fun W tk => PS.imp ps_break fun D σ H ⟨Z, ρ, r, h⟩ => h σ H (.start r)
theorem ss_cont {pos : Pos} : SS C X (.Continue pos) (fun r => .ct r) := fun W tk => PS.imp ps_continue fun D σ H ⟨Z, ρ, r, h⟩ => h σ H (.start r)
theorem ss_retN {pos : Pos} : SS C X (.Return none pos) (fun r => .rt .val .non r) := fun W tk => PS.imp ps_retN fun D σ H ⟨Z, ρ, r, h⟩ => h .non σ H ⟨.refl _ _ _, r, by simp only [Rp]⟩
/-- behind a value -/
theorem OutS.val {Q : VK} {D : Ends} {ev : Rho → R (Ow × VS.D)} {f : Ow × VS.D → Rho → SR} (r : Rel C Z ρ σ H) (h : OutS C Z ρ σ H W ((ev ρ).bindS f) D)
    (k : ∀ v ρ1 x H1, EPost C Z ρ σ H ρ1 v.1 v.2 x H1 → OutS C Z ρ σ H W (f v ρ1) D → Q x H1) : tX C W ev (GE C) σ H Q := by
  refine ⟨Z, ρ, r, ?_⟩
  cases e : ev ρ with
  | no => rw [e] at h; exact h
  | ex c ρ1 =>
    rw [e] at h
    intro H1 p
    exact h σ H1 (.of p)
  | ok v ρ1 =>
    rw [e] at h
    intro x H1 p
    exact k v ρ1 x H1 p h
theorem OutS.tst {Q : Bool → Hp → Prop} {D : Ends} {ev : Rho → R Bool} {f : Bool → Rho → SR} (r : Rel C Z ρ σ H) (h : OutS C Z ρ σ H W ((ev ρ).bindS f) D)
    (k : ∀ b ρ1 H1, XPost C Z ρ σ H ρ1 H1 → OutS C Z ρ σ H W (f b ρ1) D → Q b H1) : tT C W ev σ H Q := by
  refine ⟨Z, ρ, r, ?_⟩
  cases e : ev ρ with
  | no => rw [e] at h; exact h
  | ex c ρ1 =>
    rw [e] at h
    intro H1 p
    exact h σ H1 (.of p)
  | ok v ρ1 =>
    rw [e] at h
    intro H1 p
    exact k v ρ1 H1 p h
theorem ss_if {c : Expr} {a b : List Stmt} {pos : Pos} {mc : Rho → R Bool} {ma mb : Rho → SR} (hc : SB C X c mc) (ha : SSs C X a ma) (hb : SSs C X b mb) :
    SS C X (.If c a b pos) (fun r => (mc r).bindS fun k r1 => if k then ma r1 else mb r1) := by
  intro W tk
  refine PS.imp (ps_if (hc W tk) (ha W tk) (hb W tk)) ?_
  rintro D σ H ⟨Z, ρ, r, h⟩
  refine OutS.tst r h fun k ρ1 H1 p h1 => ?_
  cases k with
  | true => exact ⟨Z, ρ1, p.rel, OutS.after p.sfr h1⟩
  | false => exact ⟨Z, ρ1, p.rel, OutS.after p.sfr h1⟩
theorem ss_exp {e : Expr} {pos : Pos} {m : Rho → R (Ow × VS.D)} (he : SE C X e m) (hs : swapsWith e none pos.line X.env = pure false) : SS C X (.Expr e pos) (fun r => (m r).bindS fun _ r1 => .nx r1) := by
  intro W tk
  refine PS.imp (ps_expr (he W tk) hs) ?_
  rintro D σ H ⟨Z, ρ, r, h⟩
  exact OutS.val r h fun v ρ1 x H1 p h1 => h1 σ H1 (.of (p.x r))
theorem ss_doc {x j pos pos'} : SS C X (.Expr (.Constant (.str x) j pos) pos') (fun r => .nx r) := fun W tk => PS.imp ps_doc fun D σ H ⟨Z, ρ, r, h⟩ => h σ H (.start r)
end
end VS
end

section
set_option autoImplicit false
set_option linter.all false
/-! VSto: stores into slots. -/
namespace VS
open PySem PySem.Spec PyProof.Rows L2

section
variable {C : RC} {X : Cx} {W : WX} {Z : Addr → Prop} {ρ ρ1 ρ2 ρ' : Rho} {σ σ1 σ2 σ' : L2.St} {H H1 H2 H' : Hp} {i : Nat} {s : Slot} {x : V} {a : Addr} {d : VS.D}
theorem put_at (li : i < ρ.length) {j : Nat} {t : Slot} (h : (putS ρ i s)[j]? = some (some t)) : (j = i ∧ t = s) ∨ (j ≠ i ∧ ρ[j]? = some (some t)) := by
  unfold putS at h
  by_cases hj : j = i
  · subst hj
    rw [List.getElem?_set_self li] at h
    cases h; exact .inl ⟨rfl, rfl⟩
  · rw [List.getElem?_set_ne (Ne.symm hj)] at h
    exact .inr ⟨hj, h⟩
theorem set_ne {j : Nat} {o : Option V} (h : j ≠ i) : (σ.set i o)[j]? = σ[j]? := List.getElem?_set_ne (Ne.symm h)
theorem set_eq {o : Option V} (li : i < σ.length) : (σ.set i o)[i]? = some o := List.getElem?_set_self li
/-- what a store does to the holdings: the new slot aside -/
theorem put_priv (li : i < ρ.length) (h : Priv (putS ρ i s) (σ.set i (some x)) a) (ls : i < σ.length) : Priv ρ σ a ∨ ((s.f = .own ∨ s.f = .lent) ∧ x = .ref a) := by
  obtain ⟨j, t, h1, h2, h3⟩ := h
  rcases put_at li h1 with ⟨rfl, rfl⟩ | ⟨hj, h1⟩
  · rw [set_eq ls] at h3
    cases h3
    exact .inr ⟨h2, rfl⟩
  · rw [set_ne hj] at h3
    exact .inl ⟨j, t, h1, h2, h3⟩
theorem put_own (li : i < ρ.length) (h : Own (putS ρ i s) (σ.set i (some x)) a) (ls : i < σ.length) : Own ρ σ a ∨ (s.f = .own ∧ x = .ref a) := by
  obtain ⟨j, t, h1, h2, h3⟩ := h
  rcases put_at li h1 with ⟨rfl, rfl⟩ | ⟨hj, h1⟩
  · rw [set_eq ls] at h3
    cases h3
    exact .inr ⟨h2, rfl⟩
  · rw [set_ne hj] at h3
    exact .inl ⟨j, t, h1, h2, h3⟩
theorem put_ownl (li : i < ρ.length) (h : OwnL (putS ρ i s) (σ.set i (some x)) a) (ls : i < σ.length) : OwnL ρ σ a ∨ (s.f = .own ∧ x = .ref a) := by
  obtain ⟨j, t, h1, h2, h4, h3⟩ := h
  rcases put_at li h1 with ⟨rfl, rfl⟩ | ⟨hj, h1⟩
  · rw [set_eq ls] at h3
    cases h3
    exact .inr ⟨h2, rfl⟩
  · rw [set_ne hj] at h3
    exact .inl ⟨j, t, h1, h2, h4, h3⟩
theorem Fr.of_eq (ρ : Rho) (σ : L2.St) (H : Hp) : Fr ρ σ H H := Fr.refl ρ σ H
/-- the frame of a store -/
theorem SFr.store (li : i < ρ.length) (ls : i < σ.length) (hp : s.p = false) (hl : s.f ≠ .lent) (hn : s.f = .own ∨ s.f = .lent → ∀ a, x = .ref a → H a = none) : SFr ρ σ H (putS ρ i s) (σ.set i (some x)) H := by
  refine ⟨.refl _ _ _, by simp [putS], fun a h => ?_, fun a h => ?_, fun a h => ?_, fun j t h p => ?_, fun j t h f => ?_⟩
  · exact (put_priv li h ls).imp id fun ⟨f, e⟩ => hn f a e
  · exact (put_own li h ls).imp id fun ⟨f, e⟩ => hn (.inl f) a e
  · exact (put_ownl li h ls).imp id fun ⟨f, e⟩ => hn (.inl f) a e
  · rcases put_at li h with ⟨rfl, rfl⟩ | ⟨hj, h⟩
    · rw [hp] at p; cases p
    · exact ⟨t, h, p, set_ne hj, id, .inl, Iff.rfl, fun _ => rfl⟩
  · rcases put_at li h with ⟨rfl, rfl⟩ | ⟨hj, h⟩
    · exact absurd f hl
    · exact ⟨t, h, f, rfl, rfl, set_ne hj⟩
/-- a plain value comes into a slot -/
theorem Rel.putV (r : Rel C Z ρ σ H) (li : i < ρ.length) (q : Rp C.K (Av Z ρ σ) H d x) : SPost C Z ρ σ H (putS ρ i (newS .val d)) (σ.set i (some x)) H := by
  have ls : i < σ.length := by rw [← r.len]; exact li
  have av : ∀ b, Av Z ρ σ b → Av Z (putS ρ i (newS .val d)) (σ.set i (some x)) b := fun b p => ⟨p.1, fun w => (put_priv li w ls).elim p.2 fun ⟨f, _⟩ => by rcases f with f | f <;> cases f⟩
  have k : ∀ P, Keep P H H := fun _ _ _ e _ => e
  refine ⟨.store li ls rfl (fun z => nomatch z) (fun f => by rcases f with f | f <;> cases f), ⟨by simp [putS, r.len], r.tab, r.zd, fun j t h f => ?_, fun j t h f => ?_, fun j t h f => ?_, fun j t h f => ?_, fun j l t u b h1 h2 f1 f2 e1 e2 => ?_⟩⟩
  · rcases put_at li h with ⟨rfl, rfl⟩ | ⟨hj, h⟩
    · exact ⟨x, set_eq ls, Rp.keep (k _) (fun b _ => av b) _ _ q⟩
    · obtain ⟨y, e, w⟩ := r.val j t h f
      exact ⟨y, by rw [set_ne hj]; exact e, Rp.keep (k _) (fun b _ => av b) _ _ w⟩
  · rcases put_at li h with ⟨rfl, rfl⟩ | ⟨hj, h⟩
    · cases f
    · obtain ⟨y, e, n, w⟩ := r.own j t h f
      exact ⟨y, by rw [set_ne hj]; exact e, n, Top.keep (k _) (fun b _ => av b) (fun _ e _ => e) w⟩
  · rcases put_at li h with ⟨rfl, rfl⟩ | ⟨hj, h⟩
    · cases f
    · obtain ⟨y, e, n, w⟩ := r.lent j t h f
      exact ⟨y, by rw [set_ne hj]; exact e, n, TopR.keep (k _) (fun b _ => av b) (fun _ e _ => e) w⟩
  · rcases put_at li h with ⟨rfl, rfl⟩ | ⟨hj, h⟩
    · cases f
    · obtain ⟨n, y, e, e2, w, z⟩ := r.fns j t h f
      exact ⟨n, y, e, by rw [set_ne hj]; exact e2, w, fun b eb => ⟨(z b eb).1, (z b eb).2.1, fun w => (put_priv li w ls).elim (z b eb).2.2 fun ⟨f, _⟩ => by rcases f with f | f <;> cases f⟩⟩
  · rcases put_at li h1 with ⟨rfl, rfl⟩ | ⟨hj, h1⟩
    · rcases f1 with f | f <;> cases f
    · rcases put_at li h2 with ⟨rfl, rfl⟩ | ⟨hl, h2⟩
      · rcases f2 with f | f <;> cases f
      · rw [set_ne hj] at e1
        rw [set_ne hl] at e2
        exact r.apart j l t u b h1 h2 f1 f2 e1 e2
/-- a new thing comes into a slot -/
theorem Rel.putO (r : Rel C (zAnd Z a) ρ σ H) (li : i < ρ.length) (nz : ¬ Z a) (q : Top C.K (Av (zAnd Z a) ρ σ) H d a) : Rel C Z (putS ρ i (newS .own d)) (σ.set i (some (.ref a))) H := by
  have ls : i < σ.length := by rw [← r.len]; exact li
  have av : ∀ b, Av (zAnd Z a) ρ σ b → Av Z (putS ρ i (newS .own d)) (σ.set i (some (.ref a))) b := fun b p => ⟨fun z => p.1 (.inl z), fun w => (put_priv li w ls).elim p.2 fun ⟨_, e⟩ => p.1 (.inr (by cases e; rfl))⟩
  have k : ∀ P, Keep P H H := fun _ _ _ e _ => e
  refine ⟨by simp [putS, r.len], r.tab, fun b z => r.zd b (.inl z), fun j t h f => ?_, fun j t h f => ?_, fun j t h f => ?_, fun j t h f => ?_, fun j l t u b h1 h2 f1 f2 e1 e2 => ?_⟩
  · rcases put_at li h with ⟨rfl, rfl⟩ | ⟨hj, h⟩
    · cases f
    · obtain ⟨y, e, w⟩ := r.val j t h f
      exact ⟨y, by rw [set_ne hj]; exact e, Rp.keep (k _) (fun b _ => av b) _ _ w⟩
  · rcases put_at li h with ⟨rfl, rfl⟩ | ⟨hj, h⟩
    · exact ⟨a, set_eq ls, nz, Top.keep (k _) (fun b _ => av b) (fun _ e _ => e) q⟩
    · obtain ⟨y, e, n, w⟩ := r.own j t h f
      exact ⟨y, by rw [set_ne hj]; exact e, fun z => n (.inl z), Top.keep (k _) (fun b _ => av b) (fun _ e _ => e) w⟩
  · rcases put_at li h with ⟨rfl, rfl⟩ | ⟨hj, h⟩
    · cases f
    · obtain ⟨y, e, n, w⟩ := r.lent j t h f
      exact ⟨y, by rw [set_ne hj]; exact e, fun z => n (.inl z), TopR.keep (k _) (fun b _ => av b) (fun _ e _ => e) w⟩
  · rcases put_at li h with ⟨rfl, rfl⟩ | ⟨hj, h⟩
    · cases f
    · obtain ⟨n, y, e, e2, w, z⟩ := r.fns j t h f
      exact ⟨n, y, e, by rw [set_ne hj]; exact e2, w, fun b eb => ⟨(z b eb).1, fun q => (z b eb).2.1 (.inl q), fun w => (put_priv li w ls).elim (z b eb).2.2 fun ⟨_, e⟩ => (z b eb).2.1 (.inr (by cases e; rfl))⟩⟩
  · have me : ∀ (j : Nat) (t : Slot), ρ[j]? = some (some t) → t.f = .own ∨ t.f = .lent → σ[j]? = some (some (.ref a)) → False := fun j t h f e => by
      rcases f with f | f
      · obtain ⟨y, e', n, _⟩ := r.own j t h f
        rw [e] at e'; cases e'
        exact n (.inr rfl)
      · obtain ⟨y, e', n, _⟩ := r.lent j t h f
        rw [e] at e'; cases e'
        exact n (.inr rfl)
    rcases put_at li h1 with ⟨rfl, rfl⟩ | ⟨hj, g1⟩
    · rw [set_eq ls] at e1
      cases e1
      rcases put_at li h2 with ⟨rfl, rfl⟩ | ⟨hl, g2⟩
      · rfl
      · rw [set_ne hl] at e2
        exact (me l u g2 f2 e2).elim
    · rcases put_at li h2 with ⟨rfl, rfl⟩ | ⟨hl, h2⟩
      · rw [set_eq ls] at e2
        cases e2
        rw [set_ne hj] at e1
        exact (me j t g1 f1 e1).elim
      · rw [set_ne hj] at e1
        rw [set_ne hl] at e2
        exact r.apart j l t u b g1 h2 f1 f2 e1 e2
/-- a value comes into a slot -/
theorem EPost.store {o : Ow} (r : Rel C Z ρ σ H) (p : EPost C Z ρ σ H ρ1 o d x H1) (li : i < ρ1.length) : SPost C Z ρ σ H (putS ρ1 i (newS o d)) (σ.set i (some x)) H1 := by
  have sx := (p.x r).sfr
  have vals : newS o d = newS .val d → SPost C Z ρ σ H (putS ρ1 i (newS o d)) (σ.set i (some x)) H1 := fun e => by
    rw [e]
    have v := p.val r
    exact (SPost.mk sx v.1).trans (v.1.putV li v.2)
  cases o with
  | val => exact vals rfl
  | one => exact vals rfl
  | own =>
    obtain ⟨a, rfl, na, rl, t⟩ := p.res
    have ls : i < σ.length := by rw [← rl.len]; exact li
    refine ⟨⟨sx.fr, ?_, fun b h => ?_, fun b h => ?_, fun b h => ?_, fun j t h pt => ?_, fun j t h ft => ?_⟩, rl.putO li (r.noneZ na) t⟩
    · simp [putS, sx.len]
    · rcases put_priv li h ls with h | ⟨_, e⟩
      · exact sx.priv b h
      · cases e; exact .inr na
    · rcases put_own li h ls with h | ⟨_, e⟩
      · exact sx.own b h
      · cases e; exact .inr na
    · rcases put_ownl li h ls with h | ⟨_, e⟩
      · exact sx.ownl b h
      · cases e; exact .inr na
    · rcases put_at li h with ⟨rfl, rfl⟩ | ⟨hj, h⟩
      · cases pt
      · obtain ⟨s0, h0, q⟩ := sx.par j t h pt
        exact ⟨s0, h0, q.1, by rw [set_ne hj], q.2.2⟩
    · rcases put_at li h with ⟨rfl, rfl⟩ | ⟨hj, h⟩
      · cases ft
      · obtain ⟨s0, h0, q1, q2, q3, q4⟩ := sx.lnt j t h ft
        exact ⟨s0, h0, q1, q2, q3, by rw [set_ne hj]⟩
def asgR (i : Nat) (m : Rho → R (Ow × VS.D)) (r : Rho) : SR := (m r).bindS fun v r1 => if i < r1.length then .nx (putS r1 i (newS v.1 v.2)) else .no
theorem imp_asg {m : Rho → R (Ow × VS.D)} {D : Ends} (h : tS C W (asgR i m) D σ H) : tAsg (tX C W m (GE C)) (gName i) D σ H := by
  obtain ⟨Z, ρ, r, h⟩ := h
  refine OutS.val (W := W) (f := fun v r1 => if i < r1.length then .nx (putS r1 i (newS v.1 v.2)) else .no) r h fun v ρ1 x H1 p h1 => ?_
  by_cases li : i < ρ1.length
  · rw [if_pos li] at h1
    exact h1 _ _ (p.store r li)
  · rw [if_neg li] at h1
    exact h1.elim
theorem ss_asg {n : PySem.Str} {e : Expr} {m : Rho → R (Ow × VS.D)} {pos' pos : Pos} (hN : X.N.Nodup) (hi : X.N[i]? = some n) (hx : Loc X.env.scope n) (he : SE C X e m) (hs : swapsWith e (some (.Name n pos')) pos.line X.env = pure false) (hf : X.fn n = true ∨ X.env.scope.names.lookup n = some .local) :
    SS C X (.Assign [.Name n pos'] e pos) (asgR i m) := fun W tk => PS.imp (ps_set hN hi hx (he W tk) hs hf) fun D σ H h => imp_asg h
end
end VS
end

section
set_option autoImplicit false
set_option linter.all false
/-! VRet: return. -/
namespace VS
open PySem PySem.Spec PyProof.Rows L2

section
variable {C : RC} {X : Cx} {W : WX} {Z : Addr → Prop} {ρ ρ1 ρ2 ρ' : Rho} {σ σ1 σ2 σ' : L2.St} {H H1 H2 H' : Hp} {i : Nat} {s : Slot} {x : V} {a : Addr} {d : VS.D}
theorem clr_at {j : Nat} {t : Slot} (h : (ρ.set i none)[j]? = some (some t)) : j ≠ i ∧ ρ[j]? = some (some t) := by
  by_cases hj : j = i
  · subst hj
    by_cases li : j < ρ.length
    · rw [List.getElem?_set_self li] at h; cases h
    · rw [List.getElem?_eq_none (by simpa using Nat.le_of_not_lt li)] at h; cases h
  · rw [List.getElem?_set_ne (Ne.symm hj)] at h
    exact ⟨hj, h⟩
theorem clr_priv (h : Priv (ρ.set i none) σ a) : Priv ρ σ a := by
  obtain ⟨j, t, h1, h2, h3⟩ := h
  exact ⟨j, t, (clr_at h1).2, h2, h3⟩
theorem clr_own (h : Own (ρ.set i none) σ a) : Own ρ σ a := by
  obtain ⟨j, t, h1, h2, h3⟩ := h
  exact ⟨j, t, (clr_at h1).2, h2, h3⟩
theorem SFr.clr : SFr ρ σ H (ρ.set i none) σ H := by
  refine ⟨.refl _ _ _, by simp, fun a h => .inl (clr_priv h), fun a h => .inl (clr_own h), fun a h => .inl ?_, fun j t h p => ⟨t, (clr_at h).2, p, rfl, id, .inl, Iff.rfl, fun _ => rfl⟩, fun j t h f => ⟨t, (clr_at h).2, f, rfl, rfl, rfl⟩⟩
  obtain ⟨j, t, h1, h2, h4, h3⟩ := h
  exact ⟨j, t, (clr_at h1).2, h2, h4, h3⟩
/-- a slot gives its thing up -/
theorem Rel.give (r : Rel C Z ρ σ H) (e : ρ[i]? = some (some s)) (f : s.f = .own) : ∃ a, σ[i]? = some (some (.ref a)) ∧ Rel C (zAnd Z a) (ρ.set i none) σ H ∧ Top C.K (Av (zAnd Z a) (ρ.set i none) σ) H s.d a := by
  obtain ⟨a, ea, nz, tp⟩ := r.own i s e f
  have k : ∀ P, Keep P H H := fun _ _ _ e _ => e
  have pa : Priv ρ σ a := ⟨i, s, e, .inl f, ea⟩
  have av : ∀ b, Av Z ρ σ b → Av (zAnd Z a) (ρ.set i none) σ b := fun b p => ⟨fun z => z.elim p.1 fun z => p.2 (z ▸ pa), fun w => p.2 (clr_priv w)⟩
  have na : ∀ (j : Nat) (t : Slot) (b : Addr), j ≠ i → ρ[j]? = some (some t) → t.f = .own ∨ t.f = .lent → σ[j]? = some (some (.ref b)) → ¬ Z b → ¬ zAnd Z a b := fun j t b hj h g eb n z => z.elim n fun z => by
    subst z
    exact hj (r.apart j i t s _ h e g (.inl f) eb ea)
  refine ⟨a, ea, ⟨by simp [r.len], r.tab, fun b z => z.elim (r.zd b) fun z => ?_, fun j t h g => ?_, fun j t h g => ?_, fun j t h g => ?_, fun j t h g => ?_, fun j l t u b h1 h2 => r.apart j l t u b (clr_at h1).2 (clr_at h2).2⟩, Top.keep (k _) (fun b _ => av b) (fun _ e _ => e) tp⟩
  · obtain ⟨o, eo, _⟩ := tp.there
    exact ⟨o, z ▸ eo⟩
  · obtain ⟨y, e1, q⟩ := r.val j t (clr_at h).2 g
    exact ⟨y, e1, Rp.keep (k _) (fun b _ => av b) _ _ q⟩
  · obtain ⟨b, e1, n, q⟩ := r.own j t (clr_at h).2 g
    exact ⟨b, e1, na j t b (clr_at h).1 (clr_at h).2 (.inl g) e1 n, Top.keep (k _) (fun b _ => av b) (fun _ e _ => e) q⟩
  · obtain ⟨b, e1, n, q⟩ := r.lent j t (clr_at h).2 g
    exact ⟨b, e1, na j t b (clr_at h).1 (clr_at h).2 (.inr g) e1 n, TopR.keep (k _) (fun b _ => av b) (fun _ e _ => e) q⟩
  · obtain ⟨n, y, e1, e2, q, w⟩ := r.fns j t (clr_at h).2 g
    refine ⟨n, y, e1, e2, q, fun b eb => ⟨(w b eb).1, fun z => z.elim (w b eb).2.1 fun z => (w b eb).2.2 (z ▸ pa), fun z => (w b eb).2.2 (clr_priv z)⟩⟩
theorem EPost.ret {o : Ow} (r : Rel C Z ρ σ H) (p : EPost C Z ρ σ H ρ1 o d x H1) : RPost C Z ρ σ H ρ1 σ o d x H1 := by
  refine ⟨(p.x r).sfr, ?_⟩
  have q := p.res
  cases o with
  | val => exact q
  | own =>
    obtain ⟨a, e, na, w⟩ := q
    exact ⟨a, e, .inr na, w⟩
  | one => exact q
theorem ss_ret {e : Expr} {m : Rho → R (Ow × VS.D)} {pos : Pos} (he : SE C X e m) : SS C X (.Return (some e) pos) (fun r => (m r).bindS fun v r1 => .rt v.1 v.2 r1) := by
  intro W tk
  refine PS.imp (ps_ret (he W tk)) ?_
  rintro D σ H ⟨Z, ρ, r, h⟩
  exact OutS.val (W := W) (f := fun v r1 => .rt v.1 v.2 r1) r h fun v ρ1 x H1 p h1 => h1 x σ H1 (p.ret r)
/-- return name -/
def retV (i : Nat) (m : Rho → R (Ow × VS.D)) (r : Rho) : R (Ow × VS.D) := match getS r i with
  | some s => if s.f = .own && !s.p then .ok (.own, s.d) (r.set i none) else m r
  | none => .no
theorem ss_retV {n : PySem.Str} {pos' pos : Pos} (pv : PE X (.Name n pos') (tVar i)) : SS C X (.Return (some (.Name n pos')) pos) (fun r => (retV i (varE i) r).bindS fun v r1 => .rt v.1 v.2 r1) := by
  intro W tk
  have gen : ∀ D σ H, tS C W (fun r => (retV i (varE i) r).bindS fun v r1 => .rt v.1 v.2 r1) D σ H → tRet (tVar i) D σ H := by
    rintro D σ H ⟨Z, ρ, r, h⟩
    unfold retV at h
    cases e : getS ρ i with
    | none => simp only [e] at h; exact h.elim
    | some s =>
      simp only [e] at h
      obtain ⟨e0, nf⟩ := getS_some e
      by_cases c : (s.f = .own && !s.p) = true
      · rw [if_pos c] at h
        simp only [Bool.and_eq_true, decide_eq_true_eq, Bool.not_eq_true'] at c
        obtain ⟨a, ea, rl, t⟩ := r.give e0 c.1
        exact ⟨_, ea, h _ σ H ⟨.clr, a, rfl, .inl ⟨i, s, e0, c.1, c.2, ea⟩, rl, t⟩⟩
      · rw [if_neg c] at h
        unfold varE at h
        simp only [e] at h
        obtain ⟨rl, m, w, ew, q⟩ := r.toVal e
        exact ⟨w, ew, h w σ H ⟨.exp (.refl _ _ _) m, rl, q⟩⟩
  exact PS.imp (ps_ret pv) gen
end
end VS
end

section
set_option autoImplicit false
set_option linter.all false
/-! VSet: changes of lists; op=. -/
namespace VS
open PySem PySem.Spec PyProof.Rows L2

section
variable {C : RC} {X : Cx} {W : WX} {Z : Addr → Prop} {ρ ρ1 ρ2 ρ' : Rho} {σ σ1 σ2 σ' : L2.St} {H H1 H2 H' : Hp} {i : Nat} {s : Slot} {x : V} {a : Addr} {d d' : VS.D}
theorem lt_of_slot (e : ρ[i]? = some (some s)) : i < ρ.length := by
  rcases Nat.lt_or_ge i ρ.length with h | h
  · exact h
  · rw [List.getElem?_eq_none h] at e; cases e
/-- the thing of a slot is changed -/
theorem Rel.write {u : HO} (r : Rel C Z ρ σ H) (e : ρ[i]? = some (some s)) (f : s.f = .own) (ea : σ[i]? = some (some (.ref a))) (tp : Top C.K (Av Z ρ σ) (upd H a u) d' a) :
    XPost C Z ρ σ H (putS ρ i { s with d := d' }) (upd H a u) := by
  have li := lt_of_slot e
  have oa : Own ρ σ a := ⟨i, s, e, f, ea⟩
  have m : Mono ρ (putS ρ i { s with d := d' }) := by
    refine ⟨by simp [putS], fun j t h => ?_, fun j t h => ?_⟩
    · rcases put_at li h with ⟨rfl, rfl⟩ | ⟨_, h⟩
      · exact ⟨s, e, rfl, .inl rfl, fun n => absurd f n⟩
      · exact ⟨t, h, rfl, .inl rfl, fun _ => rfl⟩
    · by_cases hj : j = i
      · subst hj; exact ⟨_, List.getElem?_set_self li⟩
      · exact ⟨t, by unfold putS; rw [List.getElem?_set_ne (Ne.symm hj)]; exact h⟩
  have fr : Fr ρ σ H (upd H a u) := by
    refine ⟨fun b o hb _ w => ?_, fun b o hb => ?_⟩
    · have z : b ≠ a := fun z => w (by rw [z]; exact oa)
      rw [upd_ne z]; exact hb
    · by_cases z : b = a
      · exact ⟨u, by rw [z]; exact upd_same⟩
      · exact ⟨o, by rw [upd_ne z]; exact hb⟩
  have kk := r.keep fr
  have av : ∀ b, Av Z ρ σ b → Av Z (putS ρ i { s with d := d' }) σ b := fun b p => m.av p
  have nb : ∀ (j : Nat) (t : Slot) (b : Addr), j ≠ i → ρ[j]? = some (some t) → t.f = .own ∨ t.f = .lent → σ[j]? = some (some (.ref b)) → b ≠ a := fun j t b hj h g eb z => by
    subst z
    exact hj (r.apart j i t s _ h e g (.inl f) eb ea)
  have tb : Tabs C.T (upd H a u) := tabs_keep r.tab fun b o e q => by
    have z : b ≠ a := fun z => by
      obtain ⟨o', e', w⟩ := r.ownThere oa
      rw [z, e'] at e; cases e
      rcases w with ⟨_, rfl⟩ | ⟨_, rfl⟩ | ⟨_, rfl⟩ <;> rcases q with ⟨_, q⟩ | ⟨_, q⟩ <;> cases q
    rw [upd_ne z]; exact e
  refine ⟨fr, m, ⟨by rw [m.len]; exact r.len, tb, fun b z => let ⟨o, q⟩ := r.zd b z; fr.dom b o q, fun j t h g => ?_, fun j t h g => ?_, fun j t h g => ?_, fun j t h g => ?_, fun j l t v b h1 h2 f1 f2 e1 e2 => ?_⟩⟩
  · rcases put_at li h with ⟨rfl, rfl⟩ | ⟨hj, h⟩
    · exact absurd (f.symm.trans g) (by decide)
    · obtain ⟨y, e1, q⟩ := r.val j t h g
      exact ⟨y, e1, Rp.keep kk (fun b _ => av b) _ _ q⟩
  · rcases put_at li h with ⟨rfl, rfl⟩ | ⟨hj, h⟩
    · obtain ⟨b, eb, nz, _⟩ := r.own j s e f
      rw [ea] at eb; cases eb
      exact ⟨a, ea, nz, Top.keep (fun _ _ e _ => e) (fun b _ => av b) (fun _ e _ => e) tp⟩
    · obtain ⟨b, e1, nz, q⟩ := r.own j t h g
      exact ⟨b, e1, nz, Top.keep kk (fun b _ => av b) (fun o eo _ => by rw [upd_ne (nb j t b hj h (.inl g) e1)]; exact eo) q⟩
  · rcases put_at li h with ⟨rfl, rfl⟩ | ⟨hj, h⟩
    · exact absurd (f.symm.trans g) (by decide)
    · obtain ⟨b, e1, nz, q⟩ := r.lent j t h g
      exact ⟨b, e1, nz, TopR.keep kk (fun b _ => av b) (fun o eo _ => by rw [upd_ne (nb j t b hj h (.inr g) e1)]; exact eo) q⟩
  · rcases put_at li h with ⟨rfl, rfl⟩ | ⟨hj, h⟩
    · exact absurd (f.symm.trans g) (by decide)
    · obtain ⟨n, y, e1, e2, q, w⟩ := r.fns j t h g
      refine ⟨n, y, e1, e2, C.st j n y H _ q fun b o eo nt k => ?_, fun b eb => ⟨let ⟨o, z⟩ := (w b eb).1; fr.dom b o z, (w b eb).2.1, fun z => (w b eb).2.2 (m.priv z)⟩⟩
      refine fr.kp b o eo nt fun wo => ?_
      rcases k with ⟨φ, k⟩ | k
      · obtain ⟨o', eo', q⟩ := r.ownThere wo
        rw [eo] at eo'
        cases eo'
        rw [k] at q
        rcases q with ⟨_, q⟩ | ⟨_, q⟩ | ⟨_, q⟩ <;> cases q
      · exact (w b k).2.2 wo.priv
  · rcases put_at li h1 with ⟨rfl, rfl⟩ | ⟨hj, g1⟩
    · rcases put_at li h2 with ⟨rfl, rfl⟩ | ⟨hl, g2⟩
      · rfl
      · exact r.apart j l s v b e g2 f1 f2 e1 e2
    · rcases put_at li h2 with ⟨rfl, rfl⟩ | ⟨hl, g2⟩
      · exact r.apart j l t s b g1 e f1 f2 e1 e2
      · exact r.apart j l t v b g1 g2 f1 f2 e1 e2
/-- l[i], by values -/
theorem get_list : PGet X (fun o i H Q => ∃ l vs k v, o = .ref l ∧ i = .int k ∧ Rd H l (.lst vs) ∧ atI vs k = some v ∧ Q v H) := by
  intro pins s σ H o i ov iv Q I ro ri h
  obtain ⟨l, vs, k, v, rfl, rfl, hr, ha, q⟩ := h
  cases ro
  obtain ⟨t, rfl⟩ := ri
  obtain ⟨its, r, pl, hz⟩ := I.list (.inl hr)
  obtain ⟨j, h1, h2, h3, h4, h5⟩ := atI_get ha
  obtain ⟨w, ew, rw'⟩ := r.get h2
  have hl := r.length
  have hn : (sizeLine : Nat) < 2 ^ 63 := by decide
  have fin : EP X pins σ Q w s := ⟨v, H, I, rw', q⟩
  by_cases h0 : 0 ≤ k
  · have hj : k.toNat = j := by
      rw [seqIndex_of h0 h5] at h1
      exact Option.some.inj h1
    exact wpAny_getItem_list pl.isList h0 (by omega) (by rw [hj]; simpa using ew) fin
  · have hj : (k + (its.toArray.size : Int)).toNat = j := by
      unfold seqIndex? at h1
      rw [List.size_toArray, ← hl]
      split at h1 <;> (try split at h1) <;> simp at h1 <;> omega
    exact wpAny_getItem_list_neg pl.isList (by omega) (by rw [List.size_toArray, ← hl]; exact h4) (by omega) (by rw [hj]; simpa using ew) fin
theorem int_ip {op : BOp} {i j v : Int} : True := trivial
def opI : BOp → Operator := opB
theorem ip_V (o : BOp) : PIp X (opB o) (fun x y H Q => ∃ P d1 d2 d, RpT X.K P H d1 x ∧ RpT X.K P H d2 y ∧ augV o d1 d2 = some d ∧ ∀ v, Rp X.K P H d v → Q v H) := by
  intro pins s σ H x y v u Q I rx ry ⟨P, d1, d2, d, h1, h2, e, q⟩
  cases o <;> cases d1 <;> cases d2 <;> (try simp only [augV, reduceCtorEq] at e)
  · cases e
    exact iop_add pins s σ H x y v u Q I rx ry ⟨_, _, h1.int, h2.int, q _ rp_int⟩
  · split at e <;> cases e
    rename_i hz
    refine iop_add_str pins s σ H x y v u Q I rx ry ⟨_, _, h1.str, h2.str, ?_, q _ ?_⟩
    · rw [tx_length, tx_length]; exact sizeLine_few hz
    · rw [tx_append]; simp only [Rp]; rfl
  · cases e
    exact iop_sub pins s σ H x y v u Q I rx ry ⟨_, _, h1.int, h2.int, q _ rp_int⟩
  · split at e <;> cases e
    rename_i hz
    simp only [Bool.or_eq_true, Bool.and_eq_true, decide_eq_true_eq] at hz
    exact iop_mul pins s σ H x y v u Q I rx ry ⟨_, _, h1.int, h2.int, hz, q _ rp_int⟩
  · split at e <;> cases e
    rename_i hz
    simp only [Bool.and_eq_true, decide_eq_true_eq] at hz
    refine iop_fdiv pins s σ H x y v u Q I rx ry ⟨_, _, h1.int, h2.int, hz, ?_⟩
    have z := q (.int _) rp_int
    rw [Int.fdiv_eq_ediv_of_nonneg _ (Int.le_of_lt hz.1)] at z
    exact z
  · split at e <;> cases e
    rename_i hz
    simp only [decide_eq_true_eq] at hz
    refine iop_mod pins s σ H x y v u Q I rx ry ⟨_, _, h1.int, h2.int, hz, ?_⟩
    have z := q (.int _) rp_int
    rw [Int.fmod_eq_emod_of_nonneg _ (Int.le_of_lt hz)] at z
    exact z
/-! ### x[i] = e, x op= e, x[i] op= e -/
theorem OutS.opd {Q : VK} {D : Ends} {Z1 : Addr → Prop} {ev : Rho → R Opd} {f : Opd → Rho → SR} (a : Mid C Z ρ σ H Z1 ρ1 H1) (h : OutS C Z ρ σ H W ((ev ρ1).bindS f) D)
    (k : ∀ o ρ2 Z2 x H2, Mid C Z ρ σ H Z2 ρ2 H2 → Mid C Z1 ρ1 σ H1 Z2 ρ2 H2 → OpdR C Z2 ρ2 σ H2 o x → OutS C Z ρ σ H W (f o ρ2) D → Q x H2) : tX C W ev (GO C) σ H1 Q := by
  refine ⟨Z1, ρ1, a.rel, ?_⟩
  cases e : ev ρ1 with
  | no => rw [e] at h; exact h
  | ex c ρ2 =>
    rw [e] at h
    intro H2 p
    exact h σ H2 (.of (a.x p))
  | ok o ρ2 =>
    rw [e] at h
    rintro x H2 ⟨Z2, p⟩
    exact k o ρ2 Z2 x H2 (a.trans p.mid) p.mid p.opd h
/-- the list of a slot is set at a place -/
theorem OutS.set {D : Ends} {o : Opd} {w xk y : V} {v : VS.D} {Z2 : Addr → Prop} (a2 : Mid C Z ρ σ H Z2 ρ2 H2) (ek : OpdR C Z2 ρ2 σ H2 o xk) (ew : σ[i]? = some (some w)) (ry : Rp C.K (Av Z ρ2 σ) H2 v y)
    (h : OutS C Z ρ σ H W (setR i o v ρ2) D) : rSetL w xk y H2 fun H3 => D.nx σ H3 := by
  unfold setR at h
  cases e1 : res ρ2 o with
  | none => simp only [e1] at h; exact h.elim
  | some k =>
    cases e2 : getS ρ2 i with
    | none => simp only [e1, e2] at h; exact h.elim
    | some s =>
      simp only [e1, e2] at h
      obtain ⟨e0, nf⟩ := getS_some e2
      cases f : s.f <;> simp only [f] at h <;> try (exact h.elim)
      cases e3 : setD s.d k v with
      | none => simp only [e3] at h; exact h.elim
      | some d2 =>
        simp only [e3] at h
        have rz : Rel C Z ρ2 σ H2 := a2.rel.weak a2.ext.1
        obtain ⟨a, ea, nz, tp⟩ := rz.own i s e0 f
        rw [ew] at ea
        cases ea
        have uk := a2.rel.use a2.ext.1 ek e1
        generalize hd : s.d = sd at e3 tp
        cases sd <;> cases k <;> simp only [setD, reduceCtorEq, Option.map_eq_some_iff] at e3
        obtain ⟨j, e4, rfl⟩ := e3
        obtain ⟨vs, ha, l⟩ := tp
        have oa : Own ρ2 σ a := ⟨i, s, e0, f, ew⟩
        have kk : Keep (Av Z ρ2 σ) H2 (upd H2 a (.lst (vs.set j y))) := by
          intro b ob hb q
          have nba : b ≠ a := by
            intro z
            subst z
            rcases q with ⟨p, _⟩ | ⟨_, q⟩ | ⟨_, _, q⟩
            · exact p.2 oa.priv
            · rw [ha] at hb; cases hb; cases q
            · rw [ha] at hb; cases hb; cases q
          rw [upd_ne nba]; exact hb
        refine ⟨a, vs, _, j, rfl, uk.int, ha, by rw [l.length]; exact e4, ?_⟩
        have xp := rz.write e0 f ew (u := .lst (vs.set j y)) (d' := .lst _) ⟨_, upd_same, RpL.keep kk (fun _ _ p => p) _ _ (l.set ry j)⟩
        rw [f] at xp
        exact h σ _ (.of (a2.fin.mid.trans xp.mid).fin)
def setEv (i : Nat) (me : Rho → R (Ow × VS.D)) (mi : Rho → R Opd) (r : Rho) : SR := (me r).bindS fun v r1 => match getS r1 i with
  | none => .no
  | some _ => (mi r1).bindS fun o r2 => setR i o v.2 r2
theorem sws_sub {o i e : Expr} {p : Pos} {line : Nat} {env : Env} : swapsWithSole [.Subscript o i p] e line env = pure false := by
  cases e <;> rfl
theorem ss_set {n : PySem.Str} {ie e : Expr} {p1 p2 pos : Pos} {me : Rho → R (Ow × VS.D)} {mi : Rho → R Opd} (hns : noSlc ie = true) (pv : PE X (.Name n p1) (tVar i)) (he : SE C X e me) (hi : SO C X ie mi) :
    SS C X (.Assign [.Subscript (.Name n p1) ie p2] e pos) (setEv i me mi) := by
  intro W tk
  refine PS.imp (ps_asg (he W tk) (pg_sub pv (hi W tk) set_list (by intro v; cases ie <;> first | rfl | simp [noSlc] at hns)) sws_sub rfl rfl) ?_
  rintro D σ H ⟨Z, ρ, r, h⟩
  refine OutS.val (W := W) (f := fun v r1 => match getS r1 i with
    | none => .no
    | some _ => (mi r1).bindS fun o r2 => setR i o v.2 r2) r h fun v ρ1 x H1 p h1 => ?_
  cases e1 : getS ρ1 i with
  | none => simp only [e1] at h1; exact h1.elim
  | some s1 =>
    simp only [e1] at h1
    have pv := p.val r
    obtain ⟨w, ew, _⟩ := pv.1.look e1
    refine ⟨w, ew, ?_⟩
    refine OutS.opd (W := W) (p.x r).mid h1 fun o ρ2 Z2 xk H2 a2 b2 ek h2 => ?_
    exact OutS.set a2 ek ew (pv.1.rp b2.fr b2.mono pv.2) h2
/-- a name op= e -/
def augEv (o : BOp) (i : Nat) (me : Rho → R Opd) (r : Rho) : SR := match getS r i with
  | none => .no
  | some _ => (me r).bindS fun y r1 => augR o i y r1
theorem ss_aug {n : PySem.Str} {e : Expr} {p1 pos : Pos} {o : BOp} {me : Rho → R Opd} (hk : C.K = X.K) (hN : X.N.Nodup) (hi : X.N[i]? = some n) (hx : Loc X.env.scope n) (he : SO C X e me) (hf : X.fn n = true ∨ X.env.scope.names.lookup n = some .local) :
    SS C X (.AugAssign (.Name n p1) (opB o) e pos) (augEv o i me) := by
  intro W tk
  refine PS.imp (ps_aug hN hi hx (he W tk) (ip_V o) hf) ?_
  rintro D σ H ⟨Z, ρ, r, h⟩
  unfold augEv at h
  cases e1 : getS ρ i with
  | none => simp only [e1] at h; exact h.elim
  | some s1 =>
    simp only [e1] at h
    obtain ⟨w, ew, _⟩ := r.look e1
    refine ⟨w, ew, ?_⟩
    refine OutS.opd (W := W) (.start r) h fun y ρ1 Z1 xy H1 a1 b1 ey h1 => ?_
    unfold augR at h1
    cases e2 : res ρ1 y with
    | none => simp only [e2] at h1; exact h1.elim
    | some d =>
      cases e3 : getS ρ1 i with
      | none => simp only [e2, e3] at h1; exact h1.elim
      | some s =>
        simp only [e2, e3] at h1
        cases e4 : augV o s.d d with
        | none => simp only [e4] at h1; exact h1.elim
        | some v =>
          simp only [e4] at h1
          have rz : Rel C Z ρ1 σ H1 := a1.rel.weak a1.ext.1
          obtain ⟨w', ew', u1⟩ := rz.look e3
          rw [ew] at ew'; cases ew'
          rw [← hk]
          refine ⟨_, _, _, v, u1, a1.rel.use a1.ext.1 ey e2, e4, fun z q => ?_⟩
          exact h1 _ _ ((SPost.of a1.fin).trans (rz.putV (lt_of_slot (getS_some e3).1) q))
/-- x[k] op= e -/
def augsEv (o : BOp) (i : Nat) (mk me : Rho → R Opd) (r : Rho) : SR := match getS r i with
  | none => .no
  | some _ => (mk r).bindS fun k r1 => match itemR i k r1 with
    | none => .no
    | some a => (me r1).bindS fun y r2 => augsR o i k a y r2
theorem ss_augs {n : PySem.Str} {ie e : Expr} {p1 p2 pos : Pos} {o : BOp} {mk me : Rho → R Opd} (hk : C.K = X.K) (hns : noSlc ie = true) (pv : PE X (.Name n p1) (tVar i)) (hi : SO C X ie mk) (he : SO C X e me) :
    SS C X (.AugAssign (.Subscript (.Name n p1) ie p2) (opB o) e pos) (augsEv o i mk me) := by
  intro W tk
  refine PS.imp (ps_augS pv (hi W tk) get_list (he W tk) (ip_V o) set_list (by
    intro ov iv new
    cases ie <;> first | rfl | simp [noSlc] at hns)) ?_
  rintro D σ H ⟨Z, ρ, r, h⟩
  unfold augsEv at h
  cases e1 : getS ρ i with
  | none => simp only [e1] at h; exact h.elim
  | some s1 =>
    simp only [e1] at h
    obtain ⟨w, ew, _⟩ := r.look e1
    refine ⟨w, ew, ?_⟩
    refine OutS.opd (W := W) (.start r) h fun k ρ1 Z1 xk H1 a1 b1 ek h1 => ?_
    cases e2 : itemR i k ρ1 with
    | none => simp only [e2] at h1; exact h1.elim
    | some a =>
      simp only [e2] at h1
      unfold itemR at e2
      split at e2
      · rename_i j f p ds ea es
        have rz : Rel C Z ρ1 σ H1 := a1.rel.weak a1.ext.1
        obtain ⟨w', ew', u1⟩ := rz.look es
        rw [ew] at ew'; cases ew'
        obtain ⟨l, vs, rfl, rd, lv⟩ := RpT.lst u1
        obtain ⟨y, hy, ry⟩ := lv.at e2
        refine ⟨l, vs, j, y, rfl, (a1.rel.use a1.ext.1 ek ea).int, rd, hy, ?_⟩
        refine OutS.opd (W := W) a1 h1 fun yo ρ2 Z2 xy H2 a2 b2 ey h2 => ?_
        unfold augsR at h2
        cases e3 : res ρ2 yo with
        | none => simp only [e3] at h2; exact h2.elim
        | some b =>
          simp only [e3] at h2
          cases e4 : augV o a b with
          | none => simp only [e4] at h2; exact h2.elim
          | some v =>
            simp only [e4] at h2
            rw [← hk]
            exact ⟨_, a, b, v, .inl (rz.rp b2.fr b2.mono ry), a2.rel.use a2.ext.1 ey e3, e4, fun z q => OutS.set a2 (b2.stay a1.rel ek) ew q h2⟩
      · cases e2
end
end VS
end

section
set_option autoImplicit false
set_option linter.all false
/-! VLend: slots lent while they are walked. -/
namespace VS
open PySem PySem.Spec PyProof.Rows L2

section
variable {C : RC} {X : Cx} {W : WX} {Z : Addr → Prop} {ρ ρ1 ρ2 ρ' r : Rho} {σ σ1 σ2 σ' : L2.St} {H H1 H2 H' : Hp} {ws : List Nat} {a : Addr}
theorem lend_len : ∀ {ws : List Nat} {ρ : Rho}, (lendAll ρ ws).length = ρ.length
  | [], _ => rfl
  | i :: is, ρ => by
    rw [lendAll, lend_len]
    split <;> simp [putS]
theorem unlend_len : ∀ {ws : List Nat} {ρ : Rho}, (unlend ρ ws).length = ρ.length
  | [], _ => rfl
  | i :: is, ρ => by
    rw [unlend, unlend_len]
    split
    · split <;> simp [putS]
    · rfl
theorem lend_bk : ∀ {ws : List Nat} {ρ : Rho} {j : Nat} {s' : Slot}, (lendAll ρ ws)[j]? = some (some s') → ∃ s, ρ[j]? = some (some s) ∧ s'.d = s.d ∧ s'.p = s.p ∧ ((s'.f = s.f ∧ (j ∈ ws → s.f = .fns ∨ s.f = .lent)) ∨ (j ∈ ws ∧ s'.f = .lent ∧ s.f ≠ .fns))
  | [], ρ, j, s', h => ⟨s', h, rfl, rfl, .inl ⟨rfl, fun z => by cases z⟩⟩
  | i :: is, ρ, j, s', h => by
    rw [lendAll] at h
    obtain ⟨s1, h1, d1, p1, f1⟩ := lend_bk h
    cases e : getS ρ i with
    | none =>
      simp only [e] at h1
      refine ⟨s1, h1, d1, p1, ?_⟩
      rcases f1 with ⟨f1, g1⟩ | ⟨f1, g1, n1⟩
      · refine .inl ⟨f1, fun m => ?_⟩
        rcases List.mem_cons.1 m with rfl | m
        · by_cases q : s1.f = .fns
          · exact .inl q
          · rw [getS_of h1 q] at e; cases e
        · exact g1 m
      · exact .inr ⟨List.mem_cons_of_mem _ f1, g1, n1⟩
    | some t =>
      simp only [e] at h1
      obtain ⟨e0, nf⟩ := getS_some e
      rcases put_at (lt_of_slot e0) h1 with ⟨rfl, rfl⟩ | ⟨hj, h1⟩
      · refine ⟨t, e0, d1, p1, .inr ⟨List.mem_cons_self, ?_, nf⟩⟩
        rcases f1 with ⟨f1, _⟩ | ⟨_, f1, _⟩
        · exact f1
        · exact f1
      · refine ⟨s1, h1, d1, p1, ?_⟩
        rcases f1 with ⟨f1, g1⟩ | ⟨f1, g1, n1⟩
        · refine .inl ⟨f1, fun m => ?_⟩
          rcases List.mem_cons.1 m with rfl | m
          · exact absurd rfl hj
          · exact g1 m
        · exact .inr ⟨List.mem_cons_of_mem _ f1, g1, n1⟩
theorem put_fw {i : Nat} {s : Slot} {j : Nat} {t : Slot} (h : ρ[j]? = some (some t)) : ∃ t', (putS ρ i s)[j]? = some (some t') := by
  by_cases hj : j = i
  · subst hj; exact ⟨s, List.getElem?_set_self (lt_of_slot h)⟩
  · exact ⟨t, by unfold putS; rw [List.getElem?_set_ne (Ne.symm hj)]; exact h⟩
theorem lend_fw : ∀ {ws : List Nat} {ρ : Rho} {j : Nat} {s : Slot}, ρ[j]? = some (some s) → ∃ s', (lendAll ρ ws)[j]? = some (some s')
  | [], ρ, j, s, h => ⟨s, h⟩
  | i :: is, ρ, j, s, h => by
    rw [lendAll]
    cases e : getS ρ i with
    | none => exact lend_fw h
    | some t =>
      obtain ⟨t', h'⟩ := put_fw (i := i) (s := { t with f := .lent }) h
      exact lend_fw h'
theorem unlend_bk : ∀ {ws : List Nat} {ρ : Rho} {j : Nat} {s' : Slot}, (unlend ρ ws)[j]? = some (some s') → ∃ s, ρ[j]? = some (some s) ∧ s'.d = s.d ∧ s'.p = s.p ∧ ((s'.f = s.f ∧ ¬ (j ∈ ws ∧ s.f = .lent)) ∨ (j ∈ ws ∧ s.f = .lent ∧ s'.f = .own))
  | [], ρ, j, s', h => ⟨s', h, rfl, rfl, .inl ⟨rfl, fun z => by cases z.1⟩⟩
  | i :: is, ρ, j, s', h => by
    rw [unlend] at h
    obtain ⟨s1, h1, d1, p1, f1⟩ := unlend_bk h
    have same : ρ[j]? = some (some s1) → (j = i → s1.f ≠ .lent) → ∃ s, ρ[j]? = some (some s) ∧ s'.d = s.d ∧ s'.p = s.p ∧ ((s'.f = s.f ∧ ¬ (j ∈ i :: is ∧ s.f = .lent)) ∨ (j ∈ i :: is ∧ s.f = .lent ∧ s'.f = .own)) := fun h1 nl => by
      refine ⟨s1, h1, d1, p1, ?_⟩
      rcases f1 with ⟨f1, g1⟩ | ⟨f1, g1, n1⟩
      · refine .inl ⟨f1, fun ⟨m, q⟩ => ?_⟩
        rcases List.mem_cons.1 m with rfl | m
        · exact nl rfl q
        · exact g1 ⟨m, q⟩
      · exact .inr ⟨List.mem_cons_of_mem _ f1, g1, n1⟩
    cases e : getS ρ i with
    | none =>
      simp only [e] at h1
      refine same h1 fun z q => ?_
      subst z
      rw [getS_of h1 (by rw [q]; decide)] at e; cases e
    | some t =>
      simp only [e] at h1
      obtain ⟨e0, nf⟩ := getS_some e
      by_cases l : t.f = .lent
      · rw [if_pos l] at h1
        rcases put_at (lt_of_slot e0) h1 with ⟨rfl, rfl⟩ | ⟨hj, h1⟩
        · refine ⟨t, e0, d1, p1, .inr ⟨List.mem_cons_self, l, ?_⟩⟩
          rcases f1 with ⟨f1, _⟩ | ⟨_, f1, _⟩
          · exact f1
          · cases f1
        · exact same h1 fun z => absurd z hj
      · rw [if_neg l] at h1
        refine same h1 fun z q => ?_
        subst z
        rw [e0] at h1; cases h1
        exact l q
theorem unlend_fw : ∀ {ws : List Nat} {ρ : Rho} {j : Nat} {s : Slot}, ρ[j]? = some (some s) → ∃ s', (unlend ρ ws)[j]? = some (some s')
  | [], ρ, j, s, h => ⟨s, h⟩
  | i :: is, ρ, j, s, h => by
    rw [unlend]
    cases e : getS ρ i with
    | none => exact unlend_fw h
    | some t =>
      dsimp only
      split
      · obtain ⟨t', h'⟩ := put_fw (i := i) (s := { t with f := .own }) h
        exact unlend_fw h'
      · exact unlend_fw h
/-- the slots that are lent are owned -/
def Owned (ρ : Rho) (ws : List Nat) : Prop := ∀ i ∈ ws, ∃ s, ρ[i]? = some (some s) ∧ s.f = .own
theorem lend_at (hw : Owned ρ ws) {j : Nat} {s' : Slot} (h : (lendAll ρ ws)[j]? = some (some s')) : ∃ s, ρ[j]? = some (some s) ∧ s'.d = s.d ∧ s'.p = s.p ∧ ((j ∉ ws ∧ s' = s) ∨ (j ∈ ws ∧ s'.f = .lent ∧ s.f = .own)) := by
  obtain ⟨s, e, d, p, f⟩ := lend_bk h
  refine ⟨s, e, d, p, ?_⟩
  by_cases m : j ∈ ws
  · obtain ⟨t, et, ft⟩ := hw j m
    rw [e] at et; cases et
    rcases f with ⟨_, g⟩ | ⟨_, f, _⟩
    · rcases g m with g | g <;> rw [ft] at g <;> cases g
    · exact .inr ⟨m, f, ft⟩
  · rcases f with ⟨f, _⟩ | ⟨f, _⟩
    · refine .inl ⟨m, ?_⟩
      obtain ⟨f1, p1, d1⟩ := s
      obtain ⟨f2, p2, d2⟩ := s'
      simp only at d p f
      subst d p f
      rfl
    · exact absurd f m
theorem lend_priv (hw : Owned ρ ws) (h : Priv (lendAll ρ ws) σ a) : Priv ρ σ a := by
  obtain ⟨j, s', h1, h2, h3⟩ := h
  obtain ⟨s, e, _, _, q⟩ := lend_at hw h1
  refine ⟨j, s, e, ?_, h3⟩
  rcases q with ⟨_, rfl⟩ | ⟨_, _, q⟩
  · exact h2
  · exact .inl q
theorem priv_lend (hw : Owned ρ ws) (h : Priv ρ σ a) : Priv (lendAll ρ ws) σ a := by
  obtain ⟨j, s, h1, h2, h3⟩ := h
  obtain ⟨s', e'⟩ := lend_fw (ws := ws) h1
  obtain ⟨t, e, _, _, q⟩ := lend_at hw e'
  rw [h1] at e; cases e
  refine ⟨j, s', e', ?_, h3⟩
  rcases q with ⟨_, rfl⟩ | ⟨_, q, _⟩
  · exact h2
  · exact .inr q
theorem lend_own (hw : Owned ρ ws) (h : Own (lendAll ρ ws) σ a) : Own ρ σ a := by
  obtain ⟨j, s', h1, h2, h3⟩ := h
  obtain ⟨s, e, _, _, q⟩ := lend_at hw h1
  refine ⟨j, s, e, ?_, h3⟩
  rcases q with ⟨_, rfl⟩ | ⟨_, f, q⟩
  · exact h2
  · exact q
theorem Rel.lendAll (rl : Rel C Z ρ σ H) (hw : Owned ρ ws) : Rel C Z (VS.lendAll ρ ws) σ H := by
  have av : ∀ b, Av Z ρ σ b → Av Z (VS.lendAll ρ ws) σ b := fun b p => ⟨p.1, fun w => p.2 (lend_priv hw w)⟩
  have k : ∀ P, Keep P H H := fun _ _ _ e _ => e
  refine ⟨by rw [lend_len]; exact rl.len, rl.tab, rl.zd, fun j t h f => ?_, fun j t h f => ?_, fun j t h f => ?_, fun j t h f => ?_, fun j l t u b h1 h2 f1 f2 e1 e2 => ?_⟩
  · obtain ⟨s, e, d, p, q⟩ := lend_at hw h
    rcases q with ⟨_, rfl⟩ | ⟨_, q, _⟩
    · obtain ⟨x, e1, w⟩ := rl.val j _ e f
      exact ⟨x, e1, Rp.keep (k _) (fun b _ => av b) _ _ w⟩
    · rw [f] at q; cases q
  · obtain ⟨s, e, d, p, q⟩ := lend_at hw h
    rcases q with ⟨_, rfl⟩ | ⟨_, q, _⟩
    · obtain ⟨x, e1, n, w⟩ := rl.own j _ e f
      exact ⟨x, e1, n, Top.keep (k _) (fun b _ => av b) (fun _ e _ => e) w⟩
    · rw [f] at q; cases q
  · obtain ⟨s, e, d, p, q⟩ := lend_at hw h
    rcases q with ⟨_, rfl⟩ | ⟨_, _, q⟩
    · obtain ⟨x, e1, n, w⟩ := rl.lent j _ e f
      exact ⟨x, e1, n, TopR.keep (k _) (fun b _ => av b) (fun _ e _ => e) w⟩
    · obtain ⟨x, e1, n, w⟩ := rl.own j _ e q
      exact ⟨x, e1, n, d ▸ TopR.keep (k _) (fun b _ => av b) (fun _ e _ => e) w.r⟩
  · obtain ⟨s, e, d, p, q⟩ := lend_at hw h
    rcases q with ⟨_, rfl⟩ | ⟨_, q, _⟩
    · obtain ⟨n, y, e1, e2, w, z⟩ := rl.fns j _ e f
      exact ⟨n, y, e1, e2, w, fun b eb => ⟨(z b eb).1, (z b eb).2.1, fun w => (z b eb).2.2 (lend_priv hw w)⟩⟩
    · rw [f] at q; cases q
  · obtain ⟨s, es, _, _, q1⟩ := lend_at hw h1
    obtain ⟨v, ev, _, _, q2⟩ := lend_at hw h2
    refine rl.apart j l s v b es ev ?_ ?_ e1 e2
    · rcases q1 with ⟨_, rfl⟩ | ⟨_, _, q⟩
      · exact f1
      · exact .inl q
    · rcases q2 with ⟨_, rfl⟩ | ⟨_, _, q⟩
      · exact f2
      · exact .inl q
/-- taken back -/
theorem unlend_priv (h : Priv (unlend r ws) σ' a) : Priv r σ' a := by
  obtain ⟨j, s', h1, h2, h3⟩ := h
  obtain ⟨s, e, _, _, q⟩ := unlend_bk h1
  refine ⟨j, s, e, ?_, h3⟩
  rcases q with ⟨f, _⟩ | ⟨_, q, _⟩
  · rw [← f]; exact h2
  · exact .inr q
theorem SPost.unlendZ {Z' : Addr → Prop} (rl : Rel C Z ρ σ H) (hw : Owned ρ ws) (hz : ∀ b, Z' b → Z b ∨ H b = none ∨ Priv ρ σ b) (p : (SFr (lendAll ρ ws) σ H r σ' H') ∧ Rel C Z' r σ' H') : SFr ρ σ H (VS.unlend r ws) σ' H' ∧ Rel C Z' (VS.unlend r ws) σ' H' := by
  have fr : Fr ρ σ H H' := ⟨fun b o e n w => p.1.fr.kp b o e n fun z => w (lend_own hw z), p.1.fr.dom⟩
  -- a lent slot that is taken back, as it was
  have back : ∀ (j : Nat) (s : Slot), r[j]? = some (some s) → s.f = .lent → j ∈ ws → ∃ t, ρ[j]? = some (some t) ∧ t.f = .own ∧ s.d = t.d ∧ s.p = t.p ∧ σ'[j]? = σ[j]? := fun j s e f m => by
    obtain ⟨s2, e2, f2, d2, p2, q2⟩ := p.1.lnt j s e f
    obtain ⟨t, et, dt, pt, q⟩ := lend_at hw e2
    rcases q with ⟨n, _⟩ | ⟨_, _, ft⟩
    · exact absurd m n
    · exact ⟨t, et, ft, d2.trans dt, p2.trans pt, q2⟩
  have kk : Keep (Av Z ρ σ) H H' := rl.keep fr
  have some_ne : ∀ {b : Addr}, (∃ o, H b = some o) → H b ≠ none := fun ⟨o, e⟩ z => by rw [e] at z; cases z
  have av1 : ∀ b, (∃ o, H b = some o) → Av Z ρ σ b → Av Z' (VS.unlend r ws) σ' b := fun b hb q => by
    refine ⟨fun z => (hz b z).elim q.1 fun z => z.elim (some_ne hb) q.2, fun w => ?_⟩
    rcases p.1.priv b (unlend_priv w) with w | w
    · exact q.2 (lend_priv hw w)
    · exact some_ne hb w
  have av2 : ∀ b, Av Z' r σ' b → Av Z' (VS.unlend r ws) σ' b := fun b q => ⟨q.1, fun w => q.2 (unlend_priv w)⟩
  have k : ∀ P, Keep P H' H' := fun _ _ _ e _ => e
  have ownBack : ∀ b, Own (VS.unlend r ws) σ' b → Own r σ' b ∨ Own ρ σ b := fun b ⟨j, s', h1, h2, h3⟩ => by
    obtain ⟨s, e, _, _, q⟩ := unlend_bk h1
    rcases q with ⟨f, _⟩ | ⟨m, q, _⟩
    · exact .inl ⟨j, s, e, by rw [← f]; exact h2, h3⟩
    · obtain ⟨t, et, ft, _, _, q2⟩ := back j s e q m
      exact .inr ⟨j, t, et, ft, by rw [← q2]; exact h3⟩
  refine ⟨⟨fr, by rw [unlend_len, p.1.len, lend_len], fun b w => ?_, fun b w => ?_, fun b w => ?_, fun j s' h pt => ?_, fun j s' h ft => ?_⟩, ⟨by rw [unlend_len]; exact p.2.len, p.2.tab, p.2.zd, fun j t h f => ?_, fun j t h f => ?_, fun j t h f => ?_, fun j t h f => ?_, fun j l t u b h1 h2 f1 f2 e1 e2 => ?_⟩⟩
  · exact (p.1.priv b (unlend_priv w)).imp (lend_priv hw) id
  · rcases ownBack b w with w | w
    · exact (p.1.own b w).imp (lend_own hw) id
    · exact .inl w
  · obtain ⟨j, s', h1, h2, hp, h3⟩ := w
    obtain ⟨s, e, _, ep, q⟩ := unlend_bk h1
    rcases q with ⟨f, _⟩ | ⟨m, q, _⟩
    · refine (p.1.ownl b ⟨j, s, e, by rw [← f]; exact h2, by rw [← ep]; exact hp, h3⟩).imp (fun ⟨i, t, g1, g2, g3, g4⟩ => ?_) id
      obtain ⟨u, eu, _, pu, q⟩ := lend_at hw g1
      refine ⟨i, u, eu, ?_, by rw [← pu]; exact g3, g4⟩
      rcases q with ⟨_, rfl⟩ | ⟨_, q, _⟩
      · exact g2
      · rw [g2] at q; cases q
    · obtain ⟨t, et, ft, _, pt, q2⟩ := back j s e q m
      exact .inl ⟨j, t, et, ft, by rw [← pt, ← ep]; exact hp, by rw [← q2]; exact h3⟩
  · obtain ⟨s, e, ed, ep, q⟩ := unlend_bk h
    obtain ⟨s2, e2, p2, g2, o2, l2, n2, d2⟩ := p.1.par j s e (by rw [← ep]; exact pt)
    obtain ⟨t, et, dt, ptt, qt⟩ := lend_at hw e2
    refine ⟨t, et, by rw [← ptt]; exact p2, g2, fun z => ?_, fun z => ?_, ?_, fun z => ?_⟩
    · rcases qt with ⟨nm, rfl⟩ | ⟨_, _, qt⟩
      · rcases q with ⟨f, _⟩ | ⟨m, _, _⟩
        · exact o2 (by rw [← f]; exact z)
        · exact absurd m nm
      · exact qt
    · rcases qt with ⟨nm, rfl⟩ | ⟨_, _, qt⟩
      · rcases q with ⟨f, _⟩ | ⟨m, _, _⟩
        · exact l2 (by rw [← f]; exact z)
        · exact absurd m nm
      · exact .inr qt
    · rcases qt with ⟨nm, rfl⟩ | ⟨_, f2, ft⟩
      · rcases q with ⟨f, _⟩ | ⟨m, _, _⟩
        · rw [f]; exact n2
        · exact absurd m nm
      · rw [f2] at n2
        rcases q with ⟨f, _⟩ | ⟨_, fl, fo⟩
        · rw [f, n2, ft]; exact ⟨fun z => (nomatch z), fun z => (nomatch z)⟩
        · rw [fo, ft]
    · rw [ed]
      rcases qt with ⟨nm, rfl⟩ | ⟨_, f2, ft⟩
      · exact d2 z
      · exact absurd ft z
  · obtain ⟨s, e, ed, ep, q⟩ := unlend_bk h
    rcases q with ⟨f, nl⟩ | ⟨_, _, q⟩
    · obtain ⟨s2, e2, f2, d2, p2, q2⟩ := p.1.lnt j s e (by rw [← f]; exact ft)
      obtain ⟨t, et, dt, pt, q⟩ := lend_at hw e2
      rcases q with ⟨_, rfl⟩ | ⟨m, _, _⟩
      · exact ⟨s2, et, f2, ed.trans d2, ep.trans p2, q2⟩
      · exact absurd ⟨m, by rw [← f]; exact ft⟩ nl
    · rw [ft] at q; cases q
  · obtain ⟨s, e, ed, ep, q⟩ := unlend_bk h
    rcases q with ⟨g, _⟩ | ⟨_, _, q⟩
    · obtain ⟨x, e1, w⟩ := p.2.val j s e (by rw [← g]; exact f)
      exact ⟨x, e1, ed ▸ Rp.keep (k _) (fun b _ => av2 b) _ _ w⟩
    · rw [f] at q; cases q
  · obtain ⟨s, e, ed, ep, q⟩ := unlend_bk h
    rcases q with ⟨g, _⟩ | ⟨m, g, _⟩
    · obtain ⟨x, e1, n, w⟩ := p.2.own j s e (by rw [← g]; exact f)
      exact ⟨x, e1, n, ed ▸ Top.keep (k _) (fun b _ => av2 b) (fun _ e _ => e) w⟩
    · obtain ⟨t2, et, ft, dt, _, q2⟩ := back j s e g m
      obtain ⟨x, e1, n, w⟩ := rl.own j t2 et ft
      refine ⟨x, by rw [q2]; exact e1, p.2.privZ ⟨j, s, e, .inr g, by rw [q2]; exact e1⟩, ?_⟩
      rw [ed, dt]
      refine Top.keep kk av1 (fun o eo no => p.1.fr.kp x o eo no fun z => ?_) w
      obtain ⟨i, u, g1, g2, g3⟩ := z
      obtain ⟨v, ev, _, _, qv⟩ := lend_at hw g1
      rcases qv with ⟨nm, rfl⟩ | ⟨_, qv, _⟩
      · have := rl.apart i j u t2 x ev et (.inl g2) (.inl ft) g3 e1
        subst this
        exact nm m
      · rw [g2] at qv; cases qv
  · obtain ⟨s, e, ed, ep, q⟩ := unlend_bk h
    rcases q with ⟨g, _⟩ | ⟨_, _, q⟩
    · obtain ⟨x, e1, n, w⟩ := p.2.lent j s e (by rw [← g]; exact f)
      exact ⟨x, e1, n, ed ▸ TopR.keep (k _) (fun b _ => av2 b) (fun _ e _ => e) w⟩
    · rw [f] at q; cases q
  · obtain ⟨s, e, ed, ep, q⟩ := unlend_bk h
    rcases q with ⟨g, _⟩ | ⟨_, _, q⟩
    · obtain ⟨n, y, e1, e2, w, z⟩ := p.2.fns j s e (by rw [← g]; exact f)
      exact ⟨n, y, ed.trans e1, e2, w, fun b eb => ⟨(z b eb).1, (z b eb).2.1, fun w => (z b eb).2.2 (unlend_priv w)⟩⟩
    · rw [f] at q; cases q
  · obtain ⟨s, es, _, _, q1⟩ := unlend_bk h1
    obtain ⟨v, ev, _, _, q2⟩ := unlend_bk h2
    refine p.2.apart j l s v b es ev ?_ ?_ e1 e2
    · rcases q1 with ⟨g, _⟩ | ⟨_, q, _⟩
      · rw [← g]; exact f1
      · exact .inr q
    · rcases q2 with ⟨g, _⟩ | ⟨_, q, _⟩
      · rw [← g]; exact f2
      · exact .inr q
theorem SPost.unlend (rl : Rel C Z ρ σ H) (hw : Owned ρ ws) (p : SPost C Z (lendAll ρ ws) σ H r σ' H') : SPost C Z ρ σ H (VS.unlend r ws) σ' H' := by
  have q := SPost.unlendZ rl hw (fun b z => .inl z) ⟨p.sfr, p.rel⟩
  exact ⟨q.1, q.2⟩
theorem lend_ownl (hw : Owned ρ ws) (h : OwnL (lendAll ρ ws) σ a) : OwnL ρ σ a := by
  obtain ⟨j, s', h1, h2, hp, h3⟩ := h
  obtain ⟨s, e, _, p, q⟩ := lend_at hw h1
  refine ⟨j, s, e, ?_, by rw [← p]; exact hp, h3⟩
  rcases q with ⟨_, rfl⟩ | ⟨_, f, q⟩
  · exact h2
  · exact q
theorem RPost.unlend {o : Ow} {d : VS.D} {v : V} (rl : Rel C Z ρ σ H) (hw : Owned ρ ws) (p : RPost C Z (lendAll ρ ws) σ H r σ' o d v H') : RPost C Z ρ σ H (VS.unlend r ws) σ' o d v H' := by
  have q := p.res
  have av2 : ∀ (Z' : Addr → Prop) b, Av Z' r σ' b → Av Z' (VS.unlend r ws) σ' b := fun Z' b q => ⟨q.1, fun w => q.2 (unlend_priv w)⟩
  have k : ∀ P, Keep P H' H' := fun _ _ _ e _ => e
  cases o with
  | val =>
    have u := SPost.unlendZ rl hw (fun b z => .inl z) ⟨p.sfr, q.1⟩
    exact ⟨u.1, u.2, Rp.keep (k _) (fun b _ => av2 _ b) _ _ q.2⟩
  | own =>
    obtain ⟨a, e, na, w, t⟩ := q
    have na' : OwnL ρ σ a ∨ H a = none := na.imp (lend_ownl hw) id
    have u := SPost.unlendZ rl hw (fun b z => by
      rcases z with z | z
      · exact .inl z
      · rw [z]
        exact na'.elim (fun q => .inr (.inr q.own.priv)) fun q => .inr (.inl q)) ⟨p.sfr, w⟩
    exact ⟨u.1, a, e, na', u.2, Top.keep (k _) (fun b _ => av2 _ b) (fun _ e _ => e) t⟩
  | one =>
    obtain ⟨a, b, d1, e, e1, na, nb, ne, ea, w, t⟩ := q
    have u := SPost.unlendZ rl hw (fun c z => by
      rcases z with (z | z) | z
      · exact .inl z
      · rw [z]; exact .inr (.inl na)
      · rw [z]; exact .inr (.inl nb)) ⟨p.sfr, w⟩
    exact ⟨u.1, a, b, d1, e, e1, na, nb, ne, ea, u.2, Top.keep (k _) (fun b _ => av2 _ b) (fun _ e _ => e) t⟩
end
end VS
end

section
set_option autoImplicit false
set_option linter.all false
/-! VTgt: targets; while; for. -/
namespace VS
open PySem PySem.Spec PyProof.Rows L2

theorem asgE_cons {e : Expr} (h : noStar e = true) (es : List Expr) (env : Env) : assignEach (e :: es) env = (false, assign e env) :: assignEach es env := by
  cases e <;> first | rfl | simp [noStar] at h
theorem asgE_len (env : Env) : ∀ {es : List Expr}, es.all noStar = true → (assignEach es env).length = es.length ∧ (assignEach es env).findIdx? (·.1) = none
  | [], _ => by simp [assignEach]
  | e :: es, h => by
    have h1 := all_eq h
    have ih := asgE_len env h1.2
    rw [asgE_cons h1.1]
    simp [ih.1, List.findIdx?_cons, ih.2]
section
variable {C : RC} {X : Cx} {W : WX} {Z : Addr → Prop} {ρ ρ1 ρ2 ρ' r : Rho} {σ σ1 σ2 σ' : L2.St} {H H1 H2 H' : Hp} {ws : List Nat} {a : Addr}
/-- a value is bound -/
def gT (C : RC) (ns : List Nat) (bind : VS.D → Rho → Option Rho) : TG := fun x σ H Q => ∃ Z ρ d ρ', Rel C Z ρ σ H ∧ Rp C.K (Av Z ρ σ) H d x ∧ bind d ρ = some ρ' ∧ ∀ σ', SPost C Z ρ σ H ρ' σ' H → (∀ (j : Nat), j ∉ ns → σ'[j]? = σ[j]? ∧ ρ'[j]? = ρ[j]?) → Q σ' H
def gTs (C : RC) (ns : List Nat) (bind : List VS.D → Rho → Option Rho) : TGs := fun xs σ H Q => ∃ Z ρ ds ρ', Rel C Z ρ σ H ∧ RpL C.K (Av Z ρ σ) H ds xs ∧ bind ds ρ = some ρ' ∧ ∀ σ', SPost C Z ρ σ H ρ' σ' H → (∀ (j : Nat), j ∉ ns → σ'[j]? = σ[j]? ∧ ρ'[j]? = ρ[j]?) → Q σ' H
theorem PG.imp {e : Expr} {t t' : TG} (h : PG X e t) (i : ∀ x σ H Q, t' x σ H Q → t x σ H Q) : PG X e t' := ⟨fun pins s σ H v u Q I r q => h.run pins s σ H v u Q I r (i v σ H Q q)⟩
theorem PGs.imp {e : List Expr} {t t' : TGs} (h : PGs X e t) (i : ∀ x σ H Q, t' x σ H Q → t x σ H Q) : PGs X e t' := ⟨fun pins s σ H v u Q I r q => h.run pins s σ H v u Q I r (i v σ H Q q)⟩
theorem bindT_nm {i : Nat} {d : VS.D} (e : bindT (.nm i) d ρ = some ρ') : i < ρ.length ∧ ρ' = putS ρ i (newS .val d) := by
  simp only [bindT] at e
  split at e <;> cases e
  rename_i li
  exact ⟨li, rfl⟩
theorem pg_nm {i : Nat} {n : PySem.Str} {pos : Pos} (hN : X.N.Nodup) (hi : X.N[i]? = some n) (hx : Loc X.env.scope n) (hf : X.fn n = true ∨ X.env.scope.names.lookup n = some .local) : PG X (.Name n pos) (gT C (namesT (.nm i)) (bindT (.nm i))) := by
  refine PG.imp (pg_name hN hi hx hf) ?_
  rintro x σ H Q ⟨Z, ρ, d, ρ', r, q, e, k⟩
  obtain ⟨li, rfl⟩ := bindT_nm e
  exact k _ (r.putV li q) fun j hj => ⟨List.getElem?_set_ne (fun z => hj (by simp [namesT, z])), by unfold putS; exact List.getElem?_set_ne (fun z => hj (by simp [namesT, z]))⟩
theorem pgs_n : PGs X [] (gTs C (namesTs []) (bindTs [])) := by
  refine PGs.imp pgs_nil ?_
  rintro xs σ H Q ⟨Z, ρ, ds, ρ', r, q, e, k⟩
  cases ds with
  | cons => simp [bindTs] at e
  | nil =>
    simp only [RpL] at q
    simp only [bindTs, Option.some.injEq] at e
    subst e
    exact ⟨q, k _ (.start r) fun _ _ => ⟨rfl, rfl⟩⟩
theorem pgs_c {e : Expr} {es : List Expr} {t : Tg} {ts : List Tg} (hs : noStar e = true) (a : PG X e (gT C (namesT t) (bindT t))) (b : PGs X es (gTs C (namesTs ts) (bindTs ts))) : PGs X (e :: es) (gTs C (namesTs (t :: ts)) (bindTs (t :: ts))) := by
  refine PGs.imp (pgs_cons a b (by rw [asgE_cons hs]; rfl)) ?_
  rintro xs σ H Q ⟨Z, ρ, ds, ρ', r, q, e, k⟩
  cases ds with
  | nil => simp [bindTs] at e
  | cons d ds =>
    simp only [RpL] at q
    obtain ⟨v, vs, rfl, q1, q2⟩ := q
    simp only [bindTs, Option.bind_eq_some_iff] at e
    obtain ⟨ρ1, e1, e2⟩ := e
    refine ⟨v, vs, rfl, Z, ρ, d, ρ1, r, q1, e1, fun σ1 p1 n1 => ?_⟩
    have kk : Keep (Av Z ρ σ) H H := fun _ _ e _ => e
    refine ⟨Z, ρ1, ds, ρ', p1.rel, RpL.keep kk (fun b ⟨o, eo⟩ w => ⟨w.1, fun z => (p1.sfr.priv b z).elim w.2 fun z => by rw [eo] at z; cases z⟩) _ _ q2, e2, fun σ2 p2 n2 => k σ2 (p1.trans p2) fun j hj => ?_⟩
    simp only [namesTs, List.mem_append, not_or] at hj
    exact ⟨(n2 j hj.2).1.trans (n1 j hj.1).1, (n2 j hj.2).2.trans (n1 j hj.1).2⟩
theorem pg_tp {es : List Expr} {k : Nat} {pos : Pos} {ts : List Tg} (hk : C.K = X.K) (hc : X.calm = true) (hs : es.all noStar = true) (hl : es.length = ts.length) (h : PGs X es (gTs C (namesTs ts) (bindTs ts))) : PG X (.Tuple es k pos) (gT C (namesT (.tup ts)) (bindT (.tup ts))) := by
  refine PG.imp (pg_tup (n := es.length) hc h (asgE_len X.env hs).1 (asgE_len X.env hs).2) ?_
  rintro x σ H Q ⟨Z, ρ, d, ρ', r, q, e, kk⟩
  cases d <;> simp only [bindT, reduceCtorEq] at e
  simp only [Rp] at q
  obtain ⟨a, vs, rfl, sq, l⟩ := q
  rename_i ds
  refine ⟨a, vs, rfl, hk ▸ sq, ?_, Z, ρ, ds, ρ', r, l, e, kk⟩
  have : ∀ {ts : List Tg} {ds : List VS.D} {r r' : Rho}, bindTs ts ds r = some r' → ds.length = ts.length := by
    intro ts
    induction ts with
    | nil => intro ds r r' e; cases ds <;> simp [bindTs] at e ⊢
    | cons t ts ih =>
      intro ds r r' e
      cases ds with
      | nil => simp [bindTs] at e
      | cons d ds =>
        simp only [bindTs, Option.bind_eq_some_iff] at e
        obtain ⟨_, _, e⟩ := e
        simp [ih e]
  rw [l.length, this e, hl]
/-! ### while -/
theorem ss_while {c : Expr} {b : List Stmt} {pos : Pos} {mc : Rho → R Bool} {mb : Rho → SR} (n : Nat) (hp : PassesOwn (model X.prog X.w) X.A X.env X.xe) (hc : SB C X c mc) (hb : SSs C X b mb) :
    SS C X (.While c b [] pos) (loopW mc mb n) := by
  intro W tk
  refine PS.imp (ps_while hp (hc W tk) (hb W tk)) ?_
  intro D σ H h
  refine ⟨fun m σ H => tS C W (loopW mc mb m) D σ H, ⟨n, h⟩, ?_⟩
  rintro m σ H ⟨Z, ρ, r, h⟩
  cases m with
  | zero => exact h.elim
  | succ m =>
    refine OutS.tst (W := W) r h fun k ρ1 H1 p h1 => ?_
    cases k with
    | false => exact h1 σ H1 (.of p)
    | true =>
      refine ⟨fun σ' H' => tS C W (loopW mc mb m) D σ' H', fun σ' H' h => ⟨m, Nat.lt_succ_self m, h⟩, Z, ρ1, p.rel, ?_⟩
      have h2 := OutS.after p.sfr h1
      simp only [if_true] at h2
      cases e : mb ρ1 with
      | nx r1 => rw [e] at h2; exact fun σ' H' q => ⟨Z, r1, q.rel, OutS.after q.sfr h2⟩
      | ct r1 => rw [e] at h2; exact fun σ' H' q => ⟨Z, r1, q.rel, OutS.after q.sfr h2⟩
      | bk r1 => rw [e] at h2; exact h2
      | rt o d r1 => rw [e] at h2; exact h2
      | ex c r1 => rw [e] at h2; exact h2
      | no => rw [e] at h2; exact h2
/-! ### what is walked -/
/-- J hands out ds as long as what is lent stays -/
def GIt (C : RC) (Z : Addr → Prop) (ρ : Rho) (σ : L2.St) (H : Hp) (J : It) (ds : List VS.D) : Prop := ∀ Z' ρ' σ' H', ZExt Z Z' H → SFr ρ σ H ρ' σ' H' → Rel C Z' ρ' σ' H' →
  (∀ (i : Nat) (d : VS.D), ds[i]? = some d → J.go i H' ∧ ∀ x H2, J.yld i H' x H2 → Grow H' H2 ∧ Rp C.K (fun b => Av Z' ρ' σ' b ∨ H' b = none) H2 d x) ∧ J.stop ds.length H'
def tSc (C : RC) (W : WX) (ev : Rho → R (List VS.D × List Nat)) : TI := fun σ H Q => ∃ Z ρ, Rel C Z ρ σ H ∧ match ev ρ with
  | .ok its ρ1 => ∀ J H1, XPost C Z ρ σ H ρ1 H1 → Owned ρ1 its.2 → GIt C Z (lendAll ρ1 its.2) σ H1 J its.1 → Q J H1
  | .ex c ρ1 => ∀ H1, XPost C Z ρ σ H ρ1 H1 → W (C.cv c) none σ H1
  | .no => False
/-- THE JUDGEMENT of what is walked -/
def SI (C : RC) (X : Cx) (tg e : Expr) (ev : Rho → R (List VS.D × List Nat)) : Prop := ∀ W, Takes X W → PI X tg e (tSc C W ev)
theorem PI.imp {tg e : Expr} {t t' : TI} (h : PI X tg e t) (i : ∀ σ H Q, t' σ H Q → t σ H Q) : PI X tg e t' := ⟨fun pins s σ H Q I q => h.run pins s σ H Q I (i σ H Q q)⟩
/-- an item's value, among the slots -/
theorem rp_or {d : VS.D} {x : V} (r : Rel C Z ρ σ H) (g : Grow H H1) (h : Rp C.K (fun b => Av Z ρ σ b ∨ H b = none) H1 d x) : Rp C.K (Av Z ρ σ) H1 d x :=
  Rp.keep (fun _ _ e _ => e) (fun b _ p => p.elim id fun e => r.noneAv e) _ _ h
def forEv (msc : Rho → R (List VS.D × List Nat)) (t : Tg) (mb : Rho → SR) (r : Rho) : SR := (msc r).bindS fun its r1 => unlS its.2 (loopF (fun d r2 => match bindT t d r2 with
  | some r3 => mb r3
  | none => .no) its.1 (lendAll r1 its.2))
theorem OutS.unlend {q : SR} {D : Ends} (rl : Rel C Z ρ σ H) (hw : Owned ρ ws) (h : OutS C Z ρ σ H W (unlS ws q) D) : OutS C Z (lendAll ρ ws) σ H W q D := by
  cases q with
  | nx r => exact fun σ' H' p => h σ' H' (p.unlend rl hw)
  | rt o d r => exact fun v σ' H' p => h v σ' H' (p.unlend rl hw)
  | bk r => exact fun σ' H' p => h σ' H' (p.unlend rl hw)
  | ct r => exact fun σ' H' p => h σ' H' (p.unlend rl hw)
  | ex c r => exact fun σ' H' p => h σ' H' (p.unlend rl hw)
  | no => exact h
theorem ss_for {tg iter : Expr} {b : List Stmt} {pos : Pos} {msc : Rho → R (List VS.D × List Nat)} {t : Tg} {mb : Rho → SR} (hp : PassesOwn (model X.prog X.w) X.A X.env X.xe) (hc : X.calm = true) (hi : SI C X tg iter msc) (hg : PG X tg (gT C (namesT t) (bindT t))) (hb : SSs C X b mb)
    (hs : ∀ x, foldedSetIterable iter X.env x = pure x) : SS C X (.For tg iter b [] pos) (forEv msc t mb) := by
  intro W tk
  refine PS.imp (ps_for hp hc (hi W tk) hg (hb W tk) hs) ?_
  rintro D σ H ⟨Z, ρ, r, h⟩
  refine ⟨Z, ρ, r, ?_⟩
  unfold forEv at h
  cases e : msc ρ with
  | no => rw [e] at h; exact h
  | ex c ρ1 =>
    rw [e] at h
    exact fun H1 p => h σ H1 (.of p)
  | ok its ρ1 =>
    rw [e] at h
    obtain ⟨ds, ws⟩ := its
    intro J H1 p hw g
    have h1 := OutS.unlend p.rel hw (OutS.after p.sfr h)
    let step : VS.D → Rho → SR := fun d r2 => match bindT t d r2 with
      | some r3 => mb r3
      | none => .no
    change OutS C Z (lendAll ρ1 ws) σ H1 W (loopF step ds (lendAll ρ1 ws)) D at h1
    refine ⟨fun i m σ' H' => i ≤ ds.length ∧ m = ds.length - i ∧ ∃ ρ', SFr (lendAll ρ1 ws) σ H1 ρ' σ' H' ∧ Rel C Z ρ' σ' H' ∧ OutS C Z ρ' σ' H' W (loopF step (ds.drop i) ρ') D, ⟨_, Nat.zero_le _, rfl, _, .refl _ _ _, p.rel.lendAll hw, h1⟩, ?_⟩
    rintro i m σ' H' ⟨hi, rfl, ρ', f, rl, ho⟩
    obtain ⟨gg, gs⟩ := g Z ρ' σ' H' (.refl _ _) f rl
    by_cases hlt : i < ds.length
    · refine .inr ?_
      have ed : ds[i]? = some ds[i] := List.getElem?_eq_getElem hlt
      obtain ⟨go, gy⟩ := gg i _ ed
      refine ⟨go, fun σ2 H2 => i + 1 ≤ ds.length ∧ ∃ ρ2, SFr (lendAll ρ1 ws) σ H1 ρ2 σ2 H2 ∧ Rel C Z ρ2 σ2 H2 ∧ OutS C Z ρ2 σ2 H2 W (loopF step (ds.drop (i + 1)) ρ2) D, fun σ2 H2 q => ⟨ds.length - (i + 1), by omega, q.1, rfl, q.2⟩, fun x H2 y => ?_⟩
      obtain ⟨gr, rp⟩ := gy x H2 y
      have rl2 : Rel C Z ρ' σ' H2 := rl.grow gr
      have f2 : SFr (lendAll ρ1 ws) σ H1 ρ' σ' H2 := f.trans (.exp (.grow gr) (.refl _))
      have ho2 := OutS.after (SFr.exp (.grow gr) (.refl _) : SFr ρ' σ' H' ρ' σ' H2) ho
      rw [List.drop_eq_getElem_cons hlt] at ho2
      simp only [loopF] at ho2
      cases eb : bindT t ds[i] ρ' with
      | none => simp only [step, eb] at ho2; exact ho2.elim
      | some ρ3 =>
        simp only [step, eb] at ho2
        refine ⟨Z, ρ', ds[i], ρ3, rl2, rp_or rl gr rp, eb, fun σ3 p3 _ => ?_⟩
        have ho3 := OutS.after p3.sfr ho2
        have f3 := f2.trans p3.sfr
        refine ⟨Z, ρ3, p3.rel, ?_⟩
        cases em : mb ρ3 with
        | nx r4 => rw [em] at ho3; exact fun σ4 H4 p4 => ⟨hlt, r4, f3.trans p4.sfr, p4.rel, OutS.after p4.sfr ho3⟩
        | ct r4 => rw [em] at ho3; exact fun σ4 H4 p4 => ⟨hlt, r4, f3.trans p4.sfr, p4.rel, OutS.after p4.sfr ho3⟩
        | bk r4 => rw [em] at ho3; exact ho3
        | rt o d r4 => rw [em] at ho3; exact ho3
        | ex c r4 => rw [em] at ho3; exact ho3
        | no => rw [em] at ho3; exact ho3
    · have e0 : i = ds.length := by omega
      subst e0
      rw [List.drop_length] at ho
      exact .inl ⟨gs, ho σ' H' (.start rl)⟩
end
end VS
end

section
set_option autoImplicit false
set_option linter.all false
/-! VIter: lists, tuples, ranges, enumerate: walked. -/
namespace VS
open PySem PySem.Spec PyProof.Rows L2

section
variable {C : RC} {X : Cx} {W : WX} {Z Z1 : Addr → Prop} {ρ ρ1 ρ2 ρ' r : Rho} {σ σ1 σ2 σ' : L2.St} {H H1 H2 H' : Hp} {ws : List Nat} {a : Addr} {o : Opd} {d : VS.D} {ds : List VS.D} {x : V}
theorem ownO_owned : Owned ρ (ownO o ρ) := by
  intro i m
  unfold ownO at m
  cases o with
  | tmp d => simp at m
  | slot j =>
    simp only at m
    cases e : getS ρ j with
    | none => simp only [e] at m; simp at m
    | some s =>
      simp only [e] at m
      split at m
      · rename_i f
        simp at m; subst m
        exact ⟨s, (getS_some e).1, f⟩
      · simp at m
/-- the walked thing is nobody's while it is walked -/
theorem notOwn (rl : Rel C Z1 ρ σ H) (q : OpdR C Z1 ρ σ H o (.ref a)) (e : res ρ o = some (.lst ds)) : ¬ Own (lendAll ρ (ownO o ρ)) σ a := by
  intro w
  have w0 : Own ρ σ a := lend_own ownO_owned w
  cases o with
  | tmp d' =>
    simp only [res, Option.some.injEq] at e
    subst e
    rcases q with q | ⟨b, e, z, _⟩
    · simp only [Rp] at q
      obtain ⟨b, vs, e, p, _⟩ := q
      cases e
      exact p.2 w0.priv
    · cases e
      exact rl.privZ w0.priv z
  | slot i =>
    simp only [res] at e
    obtain ⟨q1, s, q2⟩ := q
    rw [q2] at e
    simp only [Option.some.injEq] at e
    obtain ⟨e0, nf⟩ := getS_some q2
    obtain ⟨j, t, g1, g2, g3⟩ := w
    obtain ⟨t0, et, _, _, qt⟩ := lend_at ownO_owned g1
    rcases qt with ⟨nm, rfl⟩ | ⟨_, qt, _⟩
    · cases f : s.f with
      | own =>
        have e2 : i = j := rl.apart i j s t a e0 et (.inl f) (.inl g2) q1 g3
        subst e2
        refine nm ?_
        unfold ownO
        simp only [q2, f, if_true]
        exact List.mem_singleton.2 rfl
      | lent =>
        have e2 : i = j := rl.apart i j s t a e0 et (.inr f) (.inl g2) q1 g3
        subst e2
        rw [e0] at et; cases et
        rw [f] at g2; cases g2
      | val =>
        obtain ⟨y, ey, ry⟩ := rl.val i s e0 f
        rw [q1] at ey; cases ey
        rw [e] at ry
        simp only [Rp] at ry
        obtain ⟨b, vs, eb, p, _⟩ := ry
        cases eb
        exact p.2 w0.priv
      | fns => exact nf f
    · rw [g2] at qt; cases qt
/-- it stays as it is -/
theorem seq_stays (m : Mid C Z ρ σ H Z1 ρ1 H1) (q : OpdR C Z1 ρ1 σ H1 o x) (e : res ρ1 o = some d) (es : seqD d = some ds) : ∃ p vs, x = .ref p ∧ RpL C.K (Av Z ρ1 σ) H1 ds vs ∧
    ((d = .lst ds ∧ Rd H1 p (.lst vs) ∧ ∀ Z' ρ' σ' H', ZExt Z Z' H1 → SFr (lendAll ρ1 (ownO o ρ1)) σ H1 ρ' σ' H' → Rel C Z' ρ' σ' H' → Rd H' p (.lst vs) ∧ RpL C.K (Av Z' ρ' σ') H' ds vs) ∨
     (d = .tup ds ∧ SqT C.K H1 p vs ∧ ∀ Z' ρ' σ' H', ZExt Z Z' H1 → SFr (lendAll ρ1 (ownO o ρ1)) σ H1 ρ' σ' H' → Rel C Z' ρ' σ' H' → SqT C.K H' p vs ∧ RpL C.K (Av Z' ρ' σ') H' ds vs)) := by
  have u := m.rel.use m.ext.1 q e
  obtain ⟨p, vs, rfl, _, l, w⟩ := seqD_rp es u
  have rz : Rel C Z ρ1 σ H1 := m.rel.weak m.ext.1
  have rl := rz.lendAll (ownO_owned (o := o))
  have stay : ∀ Z' ρ' σ' H', ZExt Z Z' H1 → SFr (lendAll ρ1 (ownO o ρ1)) σ H1 ρ' σ' H' → Rel C Z' ρ' σ' H' → RpL C.K (Av Z' ρ' σ') H' ds vs := fun Z' ρ' σ' H' ze f r' => by
    refine RpL.keep (P := Av Z ρ1 σ) ?_ (fun b ⟨ob, eb⟩ w => ⟨fun z => (ze.2 b z).elim w.1 fun z => (by rw [eb] at z; cases z), fun z => (f.priv b z).elim (fun z => w.2 (lend_priv ownO_owned z)) fun z => by rw [eb] at z; cases z⟩) _ _ l
    exact rl.keepP f.fr fun b w z => w.2 (lend_own ownO_owned z).priv
  refine ⟨p, vs, rfl, l, ?_⟩
  rcases w with ⟨rfl, w⟩ | ⟨rfl, w⟩
  · refine .inl ⟨rfl, w, fun Z' ρ' σ' H' ze f r' => ⟨Rd.keep w fun ob eb q' => f.fr.kp p ob eb (fun ps z => by rcases q' with rfl | ⟨b, rfl⟩ <;> cases z) (notOwn m.rel q e), stay Z' ρ' σ' H' ze f r'⟩⟩
  · exact .inr ⟨rfl, w, fun Z' ρ' σ' H' ze f r' => ⟨SqT.keep (rl.keep f.fr) w, stay Z' ρ' σ' H' ze f r'⟩⟩
theorem RpL.some {K : PySem.W.Frag} {P : Addr → Prop} {vs : List V} (l : RpL K P H ds vs) {i : Nat} (e : ds[i]? = some d) : ∃ v, vs[i]? = some v ∧ Rp K P H d v := l.get e
theorem rp_l {K : PySem.W.Frag} {P Q : Addr → Prop} (h : Rp K P H d x) : Rp K (fun b => P b ∨ Q b) H d x := Rp.keep (fun _ _ e _ => e) (fun b _ p => .inl p) _ _ h
theorem git_list {K : PySem.W.Frag} (hk : C.K = K) {vs : List V} (h : ∀ Z' ρ' σ' H', ZExt Z Z' H → SFr ρ σ H ρ' σ' H' → Rel C Z' ρ' σ' H' → Rd H' a (.lst vs) ∧ RpL C.K (Av Z' ρ' σ') H' ds vs) : GIt C Z ρ σ H (Itl K a) ds := by
  intro Z' ρ' σ' H' ze f r'
  obtain ⟨rd, l⟩ := h Z' ρ' σ' H' ze f r'
  refine ⟨fun i d e => ?_, vs, .inl rd, by rw [l.length]; exact Nat.le_refl _⟩
  obtain ⟨v, ev, rv⟩ := l.get e
  refine ⟨⟨vs, v, .inl rd, ev⟩, fun x H2 y => ?_⟩
  obtain ⟨rfl, y⟩ := y
  have := y vs (.inl rd)
  rw [ev] at this; cases this
  exact ⟨Grow.refl _, rp_l rv⟩
theorem git_tup {K : PySem.W.Frag} (hk : C.K = K) {vs : List V} (h : ∀ Z' ρ' σ' H', ZExt Z Z' H → SFr ρ σ H ρ' σ' H' → Rel C Z' ρ' σ' H' → SqT C.K H' a vs ∧ RpL C.K (Av Z' ρ' σ') H' ds vs) : GIt C Z ρ σ H (Itt K a) ds := by
  subst hk
  intro Z' ρ' σ' H' ze f r'
  obtain ⟨rd, l⟩ := h Z' ρ' σ' H' ze f r'
  refine ⟨fun i d e => ?_, vs, rd, by rw [l.length]; exact Nat.le_refl _⟩
  obtain ⟨v, ev, rv⟩ := l.get e
  refine ⟨⟨vs, v, rd, ev⟩, fun x H2 y => ?_⟩
  obtain ⟨rfl, y⟩ := y
  have := y vs rd
  rw [ev] at this; cases this
  exact ⟨Grow.refl _, rp_l rv⟩
theorem enumD_get : ∀ {ds : List VS.D} {n i : Nat} {d : VS.D}, (enumD n ds)[i]? = some d → ∃ e, ds[i]? = some e ∧ d = .tup [.int ((n + i : Nat) : Int), e]
  | [], n, i, d, h => by simp [enumD] at h
  | x :: ds, n, 0, d, h => by
    simp [enumD] at h
    exact ⟨x, rfl, h.symm⟩
  | x :: ds, n, i + 1, d, h => by
    simp only [enumD, List.getElem?_cons_succ] at h
    obtain ⟨e, e1, e2⟩ := enumD_get h
    exact ⟨e, by simpa using e1, by rw [e2]; congr 3; omega⟩
theorem enumD_len : ∀ {ds : List VS.D} {n : Nat}, (enumD n ds).length = ds.length
  | [], n => rfl
  | x :: ds, n => by simp [enumD, enumD_len]
theorem rp_pair {K : PySem.W.Frag} {P : Addr → Prop} {T : Addr} {d e : VS.D} {y z : V} (hT : H T = none) (h1 : Rp K P H d y) (h2 : Rp K P H e z) : Rp K (fun b => P b ∨ H b = none) (upd H T (.tup [y, z])) (.tup [d, e]) (.ref T) :=
  newTup (RpL.cons h1 (RpL.cons h2 RpL.nil)) hT
theorem git_enum {K : PySem.W.Frag} (hk : C.K = K) {vs : List V} (h : ∀ Z' ρ' σ' H', ZExt Z Z' H → SFr ρ σ H ρ' σ' H' → Rel C Z' ρ' σ' H' → Rd H' a (.lst vs) ∧ RpL C.K (Av Z' ρ' σ') H' ds vs) : GIt C Z ρ σ H (Ite K a) (enumD 0 ds) := by
  intro Z' ρ' σ' H' ze f r'
  obtain ⟨rd, l⟩ := h Z' ρ' σ' H' ze f r'
  refine ⟨fun i d e => ?_, vs, .inl rd, by rw [l.length, enumD_len]; exact Nat.le_refl _⟩
  obtain ⟨d', ed, rfl⟩ := enumD_get e
  obtain ⟨v, ev, rv⟩ := l.get ed
  refine ⟨⟨vs, v, .inl rd, ev⟩, fun x H2 y => ?_⟩
  obtain ⟨T, x', rfl, hT, rfl, y⟩ := y
  have := y vs (.inl rd)
  rw [ev] at this; cases this
  rw [Nat.zero_add]
  exact ⟨Grow.new hT, rp_pair hT rp_int rv⟩
theorem git_range {lo : Int} {n : Nat} : GIt C Z ρ σ H (Itr lo n) ((List.range n).map fun (k : Nat) => .int (lo + k)) := by
  intro Z' ρ' σ' H' ze f r'
  refine ⟨fun i d e => ?_, by simp [Itr]⟩
  simp only [List.getElem?_map, Option.map_eq_some_iff] at e
  obtain ⟨k, ek, rfl⟩ := e
  have hk := List.getElem?_eq_some_iff.1 ek
  obtain ⟨hl, hk⟩ := hk
  simp at hl hk
  subst hk
  exact ⟨hl, fun x H2 y => by obtain ⟨rfl, rfl⟩ := y; exact ⟨Grow.refl _, rp_int⟩⟩
end
end VS
end

section
set_option autoImplicit false
set_option linter.all false
/-! VIter2: the walked things as expressions. -/
namespace VS
open PySem PySem.Spec PyProof.Rows L2

section
variable {C : RC} {X : Cx} {W : WX} {Z Z1 : Addr → Prop} {ρ ρ1 ρ2 ρ' r : Rho} {σ σ1 σ2 σ' : L2.St} {H H1 H2 H' : Hp} {ws : List Nat} {a : Addr} {o : Opd} {d : VS.D} {ds : List VS.D} {x : V}
theorem PI.or {tg e : Expr} {t t' : TI} (h : PI X tg e t) (h' : PI X tg e t') : PI X tg e (fun σ H R => t σ H R ∨ t' σ H R) := ⟨fun pins s σ H R I q => q.elim (h.run pins s σ H R I) (h'.run pins s σ H R I)⟩
/-- a walked operand: by its kind -/
theorem walk_opd {Q : VK} {eva : Rho → R Opd} {R' : It → Hp → Prop} {f : List VS.D → List VS.D} (h : tSc C W (fun r => (eva r).bind fun x r1 => op1 x (fun d => (seqD d).map fun ds => (f ds, ownO x r1)) r1) σ H R') :
    (∃ Z ρ, Rel C Z ρ σ H ∧ ∃ c ρ1, eva ρ = .ex c ρ1 ∧ ∀ H1, XPost C Z ρ σ H ρ1 H1 → W (C.cv c) none σ H1) ∨
    ∃ Z ρ o ρ1 d ds, Rel C Z ρ σ H ∧ eva ρ = .ok o ρ1 ∧ res ρ1 o = some d ∧ seqD d = some ds ∧ ∀ J H1, XPost C Z ρ σ H ρ1 H1 → Owned ρ1 (ownO o ρ1) → GIt C Z (lendAll ρ1 (ownO o ρ1)) σ H1 J (f ds) → R' J H1 := by
  obtain ⟨Z, ρ, r0, h⟩ := h
  cases e : eva ρ with
  | no => simp only [e, R.bind] at h
  | ex c ρ1 =>
    simp only [e, R.bind] at h
    exact .inl ⟨Z, ρ, r0, c, ρ1, e, h⟩
  | ok o ρ1 =>
    simp only [e, R.bind, op1] at h
    cases e1 : res ρ1 o with
    | none => simp only [e1] at h
    | some d =>
      simp only [e1] at h
      cases e2 : seqD d with
      | none => simp only [e2, Option.map_none, lift] at h
      | some ds =>
        simp only [e2, Option.map_some, lift] at h
        exact .inr ⟨Z, ρ, o, ρ1, d, ds, r0, e, e1, e2, h⟩
theorem si_ex {tg e : Expr} {eva : Rho → R Opd} (hk : C.K = X.K) (sa : SO C X e eva) : SI C X tg e (fun r => (eva r).bind fun x r1 => op1 x (fun d => (seqD d).map fun ds => (ds, ownO x r1)) r1) := by
  intro W tk
  refine PI.imp (PI.or (pi_list (tg := tg) (sa W tk)) (pi_tup (tg := tg) (sa W tk))) ?_
  intro σ H R' h
  rcases walk_opd (Q := fun _ _ => True) (f := fun ds => ds) h with ⟨Z, ρ, r0, c, ρ1, e, q⟩ | ⟨Z, ρ, o, ρ1, d, ds, r0, e, e1, e2, q⟩
  · exact .inl ⟨Z, ρ, r0, by rw [e]; exact q⟩
  · cases d <;> simp only [seqD, reduceCtorEq] at e2
    · cases e2
      refine .inr ⟨Z, ρ, r0, ?_⟩
      rw [e]
      rintro x H1 ⟨Z1, p⟩
      obtain ⟨b, vs, rfl, l, w⟩ := seq_stays p.mid p.opd e1 rfl
      rcases w with ⟨w, _⟩ | ⟨_, w, st⟩
      · cases w
      · exact ⟨b, rfl, ⟨vs, hk ▸ w⟩, q _ H1 p.mid.fin ownO_owned (git_tup hk st)⟩
    · cases e2
      refine .inl ⟨Z, ρ, r0, ?_⟩
      rw [e]
      rintro x H1 ⟨Z1, p⟩
      obtain ⟨b, vs, rfl, l, w⟩ := seq_stays p.mid p.opd e1 rfl
      rcases w with ⟨_, w, st⟩ | ⟨w, _⟩
      · exact ⟨b, rfl, ⟨vs, .inl w⟩, q _ H1 p.mid.fin ownO_owned (git_list hk st)⟩
      · cases w
/-- one argument -/
theorem sa_one {e : Expr} {eva : Rho → R Opd} (hs : noStar e = true) (sa : SO C X e eva) : ST C X [e] (fun r => (eva r).bind fun d r1 => (R.ok ([] : List Opd) r1).bind fun ds r2 => .ok (d :: ds) r2) := st_cons (star_cons hs _ _) sa st_nil
theorem si_range1 {tg e : Expr} {p pos : Pos} {eva : Rho → R Opd} (hg : Gl X "range") (hm : X.mg "range" = none) (hs : noStar e = true) (sa : SO C X e eva) : SI C X tg (.Call (.Name "range" p) [e] [] pos) (fun r => (eva r).bind fun x r1 => op1 x rng1 r1) := by
  intro W tk
  refine PI.imp (pi_range1 (tg := tg) hg hm (sa_one hs sa W tk) (star_cons hs _ _)) ?_
  rintro σ H R' ⟨Z, ρ, r0, h⟩
  refine ⟨Z, ρ, r0, ?_⟩
  cases e : eva ρ with
  | no => simp only [e, R.bind] at h
  | ex c ρ1 => simp only [e, R.bind] at h ⊢; exact h
  | ok o ρ1 =>
    simp only [e, R.bind, op1] at h ⊢
    rintro xs H1 ⟨Z1, q⟩
    obtain ⟨x, xs', rfl, qo, e'⟩ := q.opds
    have e' : xs' = [] := e'
    subst e'
    cases e1 : res ρ1 o with
    | none => simp only [e1] at h
    | some d =>
      simp only [e1] at h
      have u := q.rel.use q.ext.1 qo e1
      cases d <;> simp only [rng1, lift] at h
      rename_i n
      split at h
      · rename_i its ρ2 z
        split at z
        · rename_i w
          split at w <;> cases w
          rename_i hz
          cases z
          simp only [rngOk, Bool.and_eq_true, decide_eq_true_eq] at hz
          refine ⟨n, by rw [u.int], hz.1, hz.2, ?_⟩
          refine h _ H1 q.mid.fin (fun i m => by cases m) ?_
          have := git_range (C := C) (Z := Z) (ρ := ρ1) (σ := σ) (H := H1) (lo := 0) (n := n.toNat)
          simp only [rangeD, Int.sub_zero]
          exact this
        · cases z
      · rename_i z
        split at z <;> cases z
      · exact h.elim
theorem sa_two {e e2 : Expr} {eva evb : Rho → R Opd} (hs : noStar e = true) (hs2 : noStar e2 = true) (sa : SO C X e eva) (sb : SO C X e2 evb) : ST C X [e, e2] (fun r => (eva r).bind fun d r1 => ((evb r1).bind fun d r1 => (R.ok ([] : List Opd) r1).bind fun ds r2 => .ok (d :: ds) r2).bind fun ds r2 => .ok (d :: ds) r2) := st_cons (star_cons hs _ _) sa (sa_one hs2 sb)
theorem si_range2 {tg e e2 : Expr} {p pos : Pos} {eva evb : Rho → R Opd} (hg : Gl X "range") (hm : X.mg "range" = none) (hs : noStar e = true) (hs2 : noStar e2 = true) (sa : SO C X e eva) (sb : SO C X e2 evb) :
    SI C X tg (.Call (.Name "range" p) [e, e2] [] pos) (fun r => (eva r).bind fun x r1 => (evb r1).bind fun y r2 => op2 x y rng2 r2) := by
  intro W tk
  refine PI.imp (pi_range2 (tg := tg) hg hm (sa_two hs hs2 sa sb W tk) (by rw [star_cons hs, star_cons hs2]; rfl) (by rw [star_cons hs2]; rfl)) ?_
  rintro σ H R' ⟨Z, ρ, r0, h⟩
  refine ⟨Z, ρ, r0, ?_⟩
  cases e : eva ρ with
  | no => simp only [e, R.bind] at h
  | ex c ρ1 => simp only [e, R.bind] at h ⊢; exact h
  | ok o ρ1 =>
    cases e' : evb ρ1 with
    | no => simp only [e, e', R.bind] at h
    | ex c ρ1 => simp only [e, e', R.bind] at h ⊢; exact h
    | ok o2 ρ2 =>
      simp only [e, e', R.bind] at h ⊢
      rintro xs H1 ⟨Z1, q⟩
      obtain ⟨x, xs', rfl, qo, y, ys', rfl, qo2, w⟩ := q.opds
      have w : ys' = [] := w
      subst w
      unfold VS.op2 at h
      cases e1 : res ρ2 o with
      | none => simp only [e1] at h
      | some d =>
        cases e3 : res ρ2 o2 with
        | none => simp only [e1, e3] at h
        | some d2 =>
          simp only [e1, e3] at h
          have u := q.rel.use q.ext.1 qo e1
          have u2 := q.rel.use q.ext.1 qo2 e3
          cases hr : rng2 d d2 with
          | none => simp only [hr, lift] at h
          | some its =>
            simp only [hr, lift] at h
            cases d <;> cases d2 <;> simp only [rng2, reduceCtorEq] at hr
            split at hr <;> cases hr
            rename_i i j hz
            simp only [rngOk, Bool.and_eq_true, decide_eq_true_eq] at hz
            refine ⟨i, j, by rw [u.int, u2.int], ⟨hz.1.1, hz.1.2, hz.2.1, hz.2.2⟩, ?_⟩
            exact h _ H1 q.mid.fin (fun i m => by cases m) git_range
end
end VS
end

section
set_option autoImplicit false
set_option linter.all false
/-! VEnumT: enumerate of a tuple. -/
namespace VS
open PySem PySem.Spec PyProof.Rows L2
open AutoSeq1 (wpAny_loadPart')

/-- the tuple at a at each turn, each item in a new pair -/
def Iet (K : PySem.W.Frag) (a : Addr) : It :=
  ⟨fun i H => ∃ (xs : List V) (x : V), SqT K H a xs ∧ xs[i]? = some x, fun i H v H' => ∃ T x, v = .ref T ∧ H T = none ∧ H' = upd H T (.tup [.int (i : Nat), x]) ∧ ∀ xs, SqT K H a xs → xs[i]? = some x, fun i H => ∃ xs : List V, SqT K H a xs ∧ xs.length ≤ i⟩
theorem turn_enumT {P : Program} {w : World} {K : PySem.W.Frag} {elts : List Expr} {kk : Nat} {tpos : Pos} (a e it : Addr) :
    Turn P w K (.Tuple elts kk tpos) (Iet K a) [e, it] e (fun i h => (∃ old, IsEnum h e it ((i : Nat) : Int) old) ∧ h.IsTupleIter it a i ∧ e ≠ it ∧ a ≠ e ∧ a ≠ it) where
  mem := by simp
  obj := fun i h st b hb => by
    obtain ⟨⟨old, he⟩, ⟨o, ho, hc, hd⟩, _⟩ := st
    have q : b = e ∨ b = it := by simpa using hb
    rcases q with z | z
    · rw [z]; exact ⟨_, he, fun v q => nomatch q⟩
    · rw [z]; exact ⟨o, ho, fun v q => by rw [hd] at q; cases q⟩
  keep := fun i h h2 st k => let ⟨⟨old, he⟩, hi, hne⟩ := st; ⟨⟨old, k e (by simp) _ he⟩, hi.at fun o q => k it (by simp) o q, hne⟩
  item := by
    intro X hP hw hK hc i pins s σ H E I hf st hg
    subst hP hw hK
    obtain ⟨⟨old, he⟩, hit, hne, hae, hai⟩ := st
    obtain ⟨xs, x, hq, hx⟩ := hg
    obtain ⟨its, rv, tp, hz⟩ := I.tuple hq
    obtain ⟨u, hu, ru⟩ := rv.get hx
    have hel : e < s.heap.objs.size := Heap.lt_size he
    have hil : it < s.heap.objs.size := by obtain ⟨_, q, _⟩ := hit; exact Heap.lt_size q
    have Dr := Draws.tuple (prog := X.prog) (w := X.w) (A := X.A.in1) (I.ok.hd hc) it a hai its.toArray
    have hlt : i < its.toArray.size := by
      have := (List.getElem?_eq_some_iff.1 hu).1
      simpa using this
    refine wpAny_pyNext_enum_itemD Dr he ⟨hit, tp⟩ hlt hne (by simp [hne, Ne.symm hae]) fun y h2 tk hy ho hst hT hsz hk => ?_
    have hyu : y = u := by
      have : its.toArray[i]? = some u := by simpa using hu
      rw [this] at hy; exact (Option.some.inj hy).symm
    subst hyu
    refine ⟨_, rfl, wpAny_letOwnedTupleGo_enum (s := { s with heap := h2, toks := tk + 1 }) ho fun h3 he3 sb => ?_⟩
    have hT2 : h3.get? s.heap.objs.size = some { cls := .type "tuple", data := .seq #[.int i tk, y] } := (sb.2 _ (Nat.ne_of_gt hel)).trans hT
    have new : ObjOk X.prog X.w (upd H s.heap.objs.size (.tup [.int (i : Nat), x])) h3 s.heap.objs.size (.tup [.int (i : Nat), x]) :=
      ⟨by show 2 ≤ sizeLine; decide, [.int i tk, y], .cons ⟨_, rfl⟩ (.cons ru .nil), ⟨_, hT2, rfl, _, rfl⟩⟩
    have I1 : Inv X pins σ (upd H s.heap.objs.size (.tup [.int (i : Nat), x])) { s with heap := h3, toks := tk + 1 } :=
      I.turnedNew (ch := [e, it]) (fun b ob hb q => (sb.2 b (fun z => hb (by simp [z]))).trans (hk b ob (fun z => hb (by simp [z])) (fun z => hb (by simp [z])) q)) hf (Nat.le_refl _) new
    refine ⟨.ref s.heap.objs.size, _, I1, rfl, ⟨_, x, rfl, I.hok.fresh (Nat.le_refl _), rfl, fun ys hy => by rw [I.tuple_inj hy hq]; exact hx⟩, ⟨⟨y, ?_⟩, hst.1.at fun o q => (sb.2 it (Ne.symm hne)).trans q, hne, hae, hai⟩, fun b hb => ?_⟩
    · have e1 : ((i + 1 : Nat) : Int) = (i : Int) + 1 := by omega
      rw [e1]; exact he3
    · have hb2 : b < s.heap.objs.size := by
        have q : b = e ∨ b = it := by simpa using hb
        rcases q with z | z
        · rw [z]; exact hel
        · rw [z]; exact hil
      rw [upd_ne (Nat.ne_of_lt hb2)]
      exact (hf b hb).1
  done := by
    intro X hP hw hK hc i pins s σ H E I hf st hg
    subst hP hw hK
    obtain ⟨⟨old, he⟩, hit, hne, hae, hai⟩ := st
    obtain ⟨xs, hq, hx⟩ := hg
    obtain ⟨its, rv, tp, hz⟩ := I.tuple hq
    obtain ⟨f0, f1, f2, f3, f4, f5⟩ := hf it (by simp)
    have hl := rv.length
    have Dr : Draws X.prog X.w X.A.in1 it [it, a] 0 (fun _ _ => False) (fun k h => k = 0 ∧ h.IsTupleIter it a i ∧ h.IsTuple a its.toArray) :=
      ⟨fun _ _ q => let ⟨o, ho, _⟩ := q.2.1; ⟨o, ho⟩, fun _ _ _ q k => ⟨q.1, q.2.1.at fun o e => k it (by simp) o e, q.2.2.at fun o e => k a (by simp) o e⟩,
        fun _ _ _ _ q => absurd q (Nat.not_lt_zero _), fun s Q E q hE => wpAny_nextOf_tuple_end (I.ok.hd hc) q.2.1 q.2.2 (by simp; omega) hE⟩
    exact wpAny_pyNext_enum_endD Dr he ⟨rfl, hit, tp⟩ fun h2 eb => ⟨rfl, I.turned (t' := s.toks) (fun b o hb q => eb b o hb q) f0 f1 f3 f4 f5⟩
  self := fun A i s Q E st h => let ⟨⟨_, he⟩, _⟩ := st; wpAny_pyIter_enum he h
section
variable {prog : Program} {w : World} {A : Around} {E : Value → Shared → Prop} {s : Shared}
set_option maxHeartbeats 1000000 in
theorem meets_enumT (t : Addr) (items : Array Value) (n : Nat) (dct : Option Addr) (sl : Array (Option Value)) :
    Meets (Builtin.«enumerate.__new__» ⟨[.type "enumerate", .ref t], []⟩) (fun _ R s => s.heap.get? t = some { cls := .type "tuple", dict := dct, data := .seq items n, slots := sl } ∧
      R (.ok (.ret (.ref (s.heap.push { cls := .type "tuple_iterator", data := .fields #[.ref t, .int 0 0] }).objs.size)))
        { s with heap := (s.heap.push { cls := .type "tuple_iterator", data := .fields #[.ref t, .int 0 0] }).push { cls := .type "enumerate", data := .fields #[.none, .bool false, .ref s.heap.objs.size, rawInt 0, .none, .none] } }) :=
  .of_wp fun prog w A R s h => by
    obtain ⟨hp, g, d, tk, os⟩ := s
    obtain ⟨ht, h⟩ := h
    have hs := sub_enumerate
    have hT : Heap.IsTuple (Shared.heap ⟨hp, g, d, tk, os⟩) t items := ⟨_, ht, rfl, n, rfl⟩
    wp_walk using wpAny_loadPart' ht
    refine wpAny_stack_any fun _ => wpAny_pure ?_
    split
    · rename_i c _ _ _ _ _
      cases (c == Value.type "enumerate") <;> (wp_walk using wpAny_loadPart' ht, wpAny_pyIter_tuple hT) <;> exact ⟨_, rfl, h⟩
    · wp_walk using wpAny_loadPart' ht, wpAny_pyIter_tuple hT
      exact ⟨_, rfl, h⟩
theorem call_enumT {items : Array Value} {t : Addr} {Q : Value → Shared → Prop} (hT : s.heap.IsTuple t items)
    (h : ∀ h2, IsEnum h2 (s.heap.objs.size + 1) s.heap.objs.size 0 .none → h2.IsTupleIter s.heap.objs.size t 0 → (∀ b o, s.heap.get? b = some o → h2.get? b = some o) → Q (.ref (s.heap.objs.size + 1)) { s with heap := h2 }) :
    wpAny (model prog w) A (call (.type "enumerate") [.ref t]) Q E s := by
  obtain ⟨⟨c, dct, dt, sl⟩, ht, hc, n, hd⟩ := hT
  replace hc : c = .type "tuple" := hc
  replace hd : dt = .seq items n := hd
  subst hc hd
  refine callType_new F.called_enumerate (by decide) (F.typeCall_enumerate_1 _) (F.newCall_enumerate_1 _) (fun obj => F.args_object_init_2 obj _) F.entry_enumerate_new (meets_enumT t items n dct sl) ⟨ht, ?_⟩
  have z1 : (s.heap.push { cls := .type "tuple_iterator", data := .fields #[.ref t, .int 0 0] }).objs.size = s.heap.objs.size + 1 := Heap.size_push ..
  show _ ∧ _
  rw [z1]
  have he : IsEnum ((s.heap.push { cls := .type "tuple_iterator", data := .fields #[.ref t, .int 0 0] }).push { cls := .type "enumerate", data := .fields #[.none, .bool false, .ref s.heap.objs.size, rawInt 0, .none, .none] }) (s.heap.objs.size + 1) s.heap.objs.size 0 .none := by
    have q := Heap.get?_push_size (s.heap.push { cls := .type "tuple_iterator", data := .fields #[.ref t, .int 0 0] }) (o := { cls := .type "enumerate", data := .fields #[.none, .bool false, .ref s.heap.objs.size, rawInt 0, .none, .none] }) rfl
    rw [z1] at q; exact q
  exact ⟨⟨_, he, rfl⟩, h _ he ⟨_, Heap.get?_push_of_some _ (Heap.get?_push_size _ rfl), rfl, rfl⟩ fun b o x => Heap.get?_push_of_some _ (Heap.get?_push_of_some _ x)⟩
end
def iEnumT (K : PySem.W.Frag) (ta : TA) : TI := fun σ H R => ta σ H fun vs H1 => ∃ a xs, vs = [.ref a] ∧ SqT K H1 a xs ∧ R (Iet K a) H1
theorem pi_enumT {X : Cx} {e : Expr} {ta : TA} {p pos tpos : Pos} {elts : List Expr} {kk : Nat} (hg : Gl X "enumerate") (hm : X.mg "enumerate" = none) (ha : PA X [e] ta) (hs : starEach [e] X.env = [(false, eval e X.env)]) :
    PI X (.Tuple elts kk tpos) (.Call (.Name "enumerate" p) [e] [] pos) (iEnumT X.K ta) := by
  refine ⟨fun pins s σ H R I h => ?_⟩
  refine Call_ (ld_blt I hg hm boot_enumerate (PyProof.Rows.callWith_type1 (thn (ha.run pos pins s σ H _ I h) fun us s1 ⟨vs, H1, I1, r1, q1⟩ => ?_) hs rfl))
  obtain ⟨a, xs, ex, hq, q⟩ := q1
  subst ex
  obtain ⟨u, rfl, ru⟩ := vals1 r1
  obtain rfl : u = Value.ref a := ru
  obtain ⟨its, rv, tp, hz⟩ := I1.tuple hq
  obtain ⟨o, ho, _⟩ := id tp
  have hlt := Heap.lt_size ho
  refine call_enumT tp fun h2 he hit hk => wpAny_pyIter_enum he ?_
  have I2 : Inv X pins σ H1 { s1 with heap := h2 } := I1.kept (t' := s1.toks) hk
  refine ⟨s1.heap.objs.size + 1, [s1.heap.objs.size + 1, s1.heap.objs.size], _, _, H1, rfl, I2, turn_enumT a (s1.heap.objs.size + 1) s1.heap.objs.size, ⟨⟨.none, he⟩, hit, Nat.succ_ne_self _, Nat.ne_of_lt (Nat.lt_succ_of_lt hlt), Nat.ne_of_lt hlt⟩, fun b hb => ?_, q⟩
  have hle : s1.heap.objs.size ≤ b := by
    have z : b = s1.heap.objs.size + 1 ∨ b = s1.heap.objs.size := by simpa using hb
    rcases z with z | z <;> rw [z]
    · exact Nat.le_succ _
    · exact Nat.le_refl _
  exact I1.fpOk hle (I1.hok.fresh hle)
section
variable {C : RC} {X : Cx} {W : WX} {Z Z1 : Addr → Prop} {ρ ρ1 ρ2 ρ' r : Rho} {σ σ1 σ2 σ' : L2.St} {H H1 H2 H' : Hp} {ws : List Nat} {a : Addr} {o : Opd} {d : VS.D} {ds : List VS.D} {x : V}
theorem git_enumT {K : PySem.W.Frag} (hk : C.K = K) {vs : List V} (h : ∀ Z' ρ' σ' H', ZExt Z Z' H → SFr ρ σ H ρ' σ' H' → Rel C Z' ρ' σ' H' → SqT C.K H' a vs ∧ RpL C.K (Av Z' ρ' σ') H' ds vs) : GIt C Z ρ σ H (Iet K a) (enumD 0 ds) := by
  subst hk
  intro Z' ρ' σ' H' ze f r'
  obtain ⟨rd, l⟩ := h Z' ρ' σ' H' ze f r'
  refine ⟨fun i d e => ?_, vs, rd, by rw [l.length, enumD_len]; exact Nat.le_refl _⟩
  obtain ⟨d', ed, rfl⟩ := enumD_get e
  obtain ⟨v, ev, rv⟩ := l.get ed
  refine ⟨⟨vs, v, rd, ev⟩, fun x H2 y => ?_⟩
  obtain ⟨T, x', rfl, hT, rfl, y⟩ := y
  have := y vs rd
  rw [ev] at this; cases this
  rw [Nat.zero_add]
  exact ⟨Grow.new hT, rp_pair hT rp_int rv⟩
theorem si_enum {e : Expr} {p pos tpos : Pos} {elts : List Expr} {kk : Nat} {eva : Rho → R Opd} (hk : C.K = X.K) (hg : Gl X "enumerate") (hm : X.mg "enumerate" = none) (hs : noStar e = true) (sa : SO C X e eva) :
    SI C X (.Tuple elts kk tpos) (.Call (.Name "enumerate" p) [e] [] pos) (fun r => (eva r).bind fun x r1 => op1 x (fun d => (seqD d).map fun ds => (enumD 0 ds, ownO x r1)) r1) := by
  intro W tk
  refine PI.imp (PI.or (pi_enum hg hm (sa_one hs sa W tk) (star_cons hs _ _)) (pi_enumT hg hm (sa_one hs sa W tk) (star_cons hs _ _))) ?_
  intro σ H R' h
  rcases walk_opd (Q := fun _ _ => True) (f := enumD 0) h with ⟨Z, ρ, r0, c, ρ1, e, q⟩ | ⟨Z, ρ, o, ρ1, d, ds, r0, e, e1, e2, q⟩
  · exact .inl ⟨Z, ρ, r0, by simp only [e, R.bind]; exact q⟩
  · cases d <;> simp only [seqD, reduceCtorEq] at e2
    · cases e2
      refine .inr ⟨Z, ρ, r0, ?_⟩
      simp only [e, R.bind]
      rintro xs H1 ⟨Z1, p⟩
      obtain ⟨x, xs', rfl, qo, e'⟩ := p.opds
      have e' : xs' = [] := e'
      subst e'
      obtain ⟨b, vs, rfl, l, w⟩ := seq_stays p.mid qo e1 rfl
      rcases w with ⟨w, _⟩ | ⟨_, w, st⟩
      · cases w
      · exact ⟨b, vs, rfl, hk ▸ w, q _ H1 p.mid.fin ownO_owned (git_enumT hk st)⟩
    · cases e2
      refine .inl ⟨Z, ρ, r0, ?_⟩
      simp only [e, R.bind]
      rintro xs H1 ⟨Z1, p⟩
      obtain ⟨x, xs', rfl, qo, e'⟩ := p.opds
      have e' : xs' = [] := e'
      subst e'
      obtain ⟨b, vs, rfl, l, w⟩ := seq_stays p.mid qo e1 rfl
      rcases w with ⟨_, w, st⟩ | ⟨w, _⟩
      · exact ⟨b, vs, rfl, .inl w, q _ H1 p.mid.fin ownO_owned (git_enum hk st)⟩
      · cases w
end
end VS
end

section
set_option autoImplicit false
set_option linter.all false
/-! VArg: arguments handed on, and back. -/
namespace VS
open PySem PySem.Spec PyProof.Rows L2

theorem argSlots_get : ∀ {as : List Arg} {r ps : Rho}, argSlots r as = some ps → ps.length = as.length ∧ (∀ (k i : Nat), as[k]? = some (Arg.ref i) → ∃ s, getS r i = some s ∧ ps[k]? = some (some ⟨s.f, true, s.d⟩)) ∧ (∀ (k : Nat) (o : Ow) (d : D), as[k]? = some (Arg.tmp o d) → ps[k]? = some (some ⟨o.fl, true, d⟩))
  | [], r, ps, h => by
    simp only [argSlots, Option.some.injEq] at h
    subst h
    exact ⟨rfl, fun k i e => by simp at e, fun k o d e => by simp at e⟩
  | .ref i :: as, r, ps, h => by
    simp only [argSlots] at h
    cases e : getS r i with
    | none => simp only [e] at h; cases h
    | some s =>
      simp only [e, Option.map_eq_some_iff] at h
      obtain ⟨qs, h, rfl⟩ := h
      obtain ⟨l, h1, h2⟩ := argSlots_get h
      refine ⟨by simp [l], fun k j ek => ?_, fun k o d ek => ?_⟩
      · cases k with
        | zero => simp at ek; subst ek; exact ⟨s, e, rfl⟩
        | succ k => exact h1 k j (by simpa using ek)
      · cases k with
        | zero => simp at ek
        | succ k => exact h2 k o d (by simpa using ek)
  | .tmp o d :: as, r, ps, h => by
    simp only [argSlots, Option.map_eq_some_iff] at h
    obtain ⟨qs, h, rfl⟩ := h
    obtain ⟨l, h1, h2⟩ := argSlots_get h
    refine ⟨by simp [l], fun k j ek => ?_, fun k o' d' ek => ?_⟩
    · cases k with
      | zero => simp at ek
      | succ k => exact h1 k j (by simpa using ek)
    · cases k with
      | zero => simp at ek; obtain ⟨rfl, rfl⟩ := ek; rfl
      | succ k => exact h2 k o' d' (by simpa using ek)
theorem refs_mem {as : List Arg} {i : Nat} : i ∈ refs as ↔ ∃ k : Nat, as[k]? = some (Arg.ref i) := by
  induction as with
  | nil => simp [refs]
  | cons a as ih =>
    cases a with
    | ref j =>
      simp only [refs, List.mem_cons, ih]
      constructor
      · rintro (rfl | ⟨k, e⟩)
        · exact ⟨0, rfl⟩
        · exact ⟨k + 1, by simpa using e⟩
      · rintro ⟨k, e⟩
        cases k with
        | zero => simp at e; exact .inl e.symm
        | succ k => exact .inr ⟨k, by simpa using e⟩
    | tmp o d =>
      simp only [refs, ih]
      constructor
      · rintro ⟨k, e⟩; exact ⟨k + 1, by simpa using e⟩
      · rintro ⟨k, e⟩
        cases k with
        | zero => simp at e
        | succ k => exact ⟨k, by simpa using e⟩
theorem nodup_refs : ∀ {as : List Arg}, nodupN (refs as) = true → ∀ (k l i : Nat), as[k]? = some (Arg.ref i) → as[l]? = some (Arg.ref i) → k = l
  | [], _, k, l, i, e, _ => by simp at e
  | .tmp o d :: as, h, k, l, i, e, e' => by
    simp only [refs] at h
    cases k with
    | zero => simp at e
    | succ k =>
      cases l with
      | zero => simp at e'
      | succ l => rw [nodup_refs h k l i (by simpa using e) (by simpa using e')]
  | .ref j :: as, h, k, l, i, e, e' => by
    simp only [refs, nodupN, Bool.and_eq_true, Bool.not_eq_true', List.contains_eq_mem, decide_eq_false_iff_not] at h
    cases k with
    | zero =>
      simp at e; subst e
      cases l with
      | zero => rfl
      | succ l => exact absurd (refs_mem.2 ⟨l, by simpa using e'⟩) h.1
    | succ k =>
      cases l with
      | zero =>
        simp at e'; subst e'
        exact absurd (refs_mem.2 ⟨k, by simpa using e⟩) h.1
      | succ l => rw [nodup_refs h.2 k l i (by simpa using e) (by simpa using e')]
theorem getS_put_ne {r : Rho} {i j : Nat} {s : Slot} (h : j ≠ i) : getS (putS r i s) j = getS r j := by
  unfold getS putS
  rw [List.getElem?_set_ne (Ne.symm h)]
theorem backArgs_get : ∀ {as : List Arg} {r r' os : Rho}, nodupN (refs as) = true → backArgs r as os = some r' → r'.length = r.length ∧
    (∀ (j : Nat), j ∉ refs as → r'[j]? = r[j]?) ∧ (∀ (k j : Nat), as[k]? = some (Arg.ref j) → ∃ s t, os[k]? = some (some s) ∧ getS r j = some t ∧ s.p = true ∧ r'[j]? = some (some ⟨s.f, t.p, s.d⟩))
  | [], r, r', os, _, h => by
    simp only [backArgs, Option.some.injEq] at h
    subst h
    exact ⟨rfl, fun _ _ => rfl, fun k j e => by simp at e⟩
  | .tmp o d :: as, r, r', [], _, h => by simp [backArgs] at h
  | .ref i :: as, r, r', [], _, h => by simp [backArgs] at h
  | .ref i :: as, r, r', none :: os, _, h => by simp [backArgs] at h
  | .tmp o d :: as, r, r', q :: os, n, h => by
    simp only [backArgs] at h
    simp only [refs] at n
    obtain ⟨l, h1, h2⟩ := backArgs_get n h
    refine ⟨l, fun j hj => h1 j hj, fun k j e => ?_⟩
    cases k with
    | zero => simp at e
    | succ k =>
      obtain ⟨s, t, e1, e2, e3, e4⟩ := h2 k j (by simpa using e)
      exact ⟨s, t, by simpa using e1, e2, e3, e4⟩
  | .ref i :: as, r, r', some s :: os, n, h => by
    simp only [backArgs] at h
    simp only [refs, nodupN, Bool.and_eq_true, Bool.not_eq_true', List.contains_eq_mem, decide_eq_false_iff_not] at n
    cases e : getS r i with
    | none => simp only [e] at h; cases h
    | some t =>
      simp only [e] at h
      split at h
      · rename_i hp
        obtain ⟨l, h1, h2⟩ := backArgs_get n.2 h
        have li := lt_of_slot (getS_some e).1
        refine ⟨by rw [l]; simp [putS], fun j hj => ?_, fun k j ek => ?_⟩
        · simp only [refs, List.mem_cons, not_or] at hj
          rw [h1 j hj.2]
          unfold putS
          rw [List.getElem?_set_ne (Ne.symm hj.1)]
        · cases k with
          | zero =>
            simp at ek; subst ek
            refine ⟨s, t, rfl, e, hp, ?_⟩
            rw [h1 i n.1]
            exact List.getElem?_set_self li
          | succ k =>
            have ek : as[k]? = some (Arg.ref j) := by simpa using ek
            obtain ⟨s', t', e1, e2, e3, e4⟩ := h2 k j ek
            have hj : j ≠ i := fun z => n.1 (z ▸ refs_mem.2 ⟨k, ek⟩)
            rw [getS_put_ne hj] at e2
            exact ⟨s', t', by simpa using e1, e2, e3, e4⟩
      · cases h
end VS
end

section
set_option autoImplicit false
set_option linter.all false
/-! VBack: calls of one's own defs. -/
namespace VS
open PySem PySem.Spec PyProof.Rows L2

def zL (Z : Addr → Prop) (ads : List Addr) : Addr → Prop := fun b => Z b ∨ b ∈ ads
section
variable (C : RC) (Z : Addr → Prop) (ads : List Addr) (ρ : Rho) (σ : L2.St) (H : Hp)
/-- the arguments' values -/
structure ArgsR (as : List Arg) (xs : List V) : Prop where
  len : xs.length = as.length
  ref : ∀ (k i : Nat), as[k]? = some (Arg.ref i) → ∃ x, xs[k]? = some x ∧ σ[i]? = some (some x) ∧ ∃ s, getS ρ i = some s
  val : ∀ (k : Nat) (o : Ow) (d : D), as[k]? = some (Arg.tmp o d) → o ≠ .own → ∃ x, xs[k]? = some x ∧ Rp C.K (Av (zL Z ads) ρ σ) H d x
  own : ∀ (k : Nat) (d : D), as[k]? = some (Arg.tmp .own d) → ∃ a, xs[k]? = some (.ref a) ∧ a ∈ ads ∧ Top C.K (Av (zL Z ads) ρ σ) H d a
  inj : ∀ (k l : Nat) (d d' : D) (a : Addr), as[k]? = some (Arg.tmp .own d) → as[l]? = some (Arg.tmp .own d') → xs[k]? = some (.ref a) → xs[l]? = some (.ref a) → k = l
end
section
variable (C : RC)
structure GPost (Z : Addr → Prop) (ρ : Rho) (σ : L2.St) (H : Hp) (ρ' : Rho) (as : List Arg) (xs : List V) (H' : Hp) (ads : List Addr) : Prop where
  fr : Fr ρ σ H H'
  mono : Mono ρ ρ'
  fresh : ∀ a ∈ ads, H a = none
  rel : Rel C (zL Z ads) ρ' σ H'
  args : ArgsR C Z ads ρ' σ H' as xs
def GG (Z : Addr → Prop) (ρ : Rho) (σ : L2.St) (H : Hp) (ρ' : Rho) (as : List Arg) (xs : List V) (H' : Hp) : Prop := ∃ ads, GPost C Z ρ σ H ρ' as xs H' ads
def SG (X : Cx) (es : List Expr) (ev : Rho → R (List Arg)) : Prop := ∀ W, Takes X W → PA X es (tL C W ev (GG C))
/-- one argument -/
def G1 (Z : Addr → Prop) (ρ : Rho) (σ : L2.St) (H : Hp) (ρ' : Rho) (a : Arg) (x : V) (H' : Hp) : Prop := ∃ ads, GPost C Z ρ σ H ρ' [a] [x] H' ads
def SA (X : Cx) (e : Expr) (ev : Rho → R Arg) : Prop := ∀ W, Takes X W → PE X e (tX C W ev (G1 C))
end
section
variable {C : RC} {X : Cx} {W : WX} {Z : Addr → Prop} {ρ ρ1 ρ2 ρ' : Rho} {σ : L2.St} {H H1 H2 H' : Hp} {ads ads1 ads2 : List Addr} {as : List Arg} {xs : List V} {x : V} {d : D}
theorem argsR_one (ar : Arg) (h : match ar with
    | .ref i => σ[i]? = some (some x) ∧ ∃ s, getS ρ i = some s
    | .tmp .own d => ∃ a, x = .ref a ∧ a ∈ ads ∧ Top C.K (Av (zL Z ads) ρ σ) H d a
    | .tmp _ d => Rp C.K (Av (zL Z ads) ρ σ) H d x) : ArgsR C Z ads ρ σ H [ar] [x] := by
  refine ⟨rfl, fun k i e => ?_, fun k o d e n => ?_, fun k d e => ?_, fun k l d d' a e e' _ _ => ?_⟩
  · cases k with
    | zero => simp at e; subst e; exact ⟨x, rfl, h⟩
    | succ k => simp at e
  · cases k with
    | zero =>
      simp at e; subst e
      cases o with
      | val => exact ⟨x, rfl, h⟩
      | own => exact absurd rfl n
      | one => exact ⟨x, rfl, h⟩
    | succ k => simp at e
  · cases k with
    | zero =>
      simp at e; subst e
      obtain ⟨a, rfl, m, t⟩ := h
      exact ⟨a, rfl, m, t⟩
    | succ k => simp at e
  · cases k with
    | zero =>
      cases l with
      | zero => rfl
      | succ l => simp at e'
    | succ k => simp at e
theorem zL_nil : ∀ a, zL Z [] a → Z a := fun a z => z.elim id fun z => by cases z
theorem sa_var {i : Nat} {n : PySem.Str} {pos : Pos} {m : Rho → R (Ow × D)} (pv : PE X (.Name n pos) (tVar i)) : SA C X (.Name n pos) (argE (.var i) m) := by
  intro W tk
  refine PE.imp pv ?_
  rintro σ H Q ⟨Z, ρ, r0, h⟩
  unfold argE at h
  cases e : getS ρ i with
  | none => simp only [e] at h
  | some s =>
    simp only [e] at h
    obtain ⟨w, ew, u⟩ := r0.look e
    have rz : Rel C (zL Z []) ρ σ H := r0.weak zL_nil
    refine ⟨w, ew, ?_⟩
    have out : ∀ ar, ArgsR C Z [] ρ σ H [ar] [w] → G1 C Z ρ σ H ρ ar w H := fun ar q => ⟨[], Fr.refl _ _ _, Mono.refl _, fun a m => (by cases m), rz, q⟩
    cases f : s.f with
    | val =>
      simp only [f] at h
      obtain ⟨y, ey, q⟩ := rz.val i s (getS_some e).1 f
      rw [ew] at ey; cases ey
      exact h _ _ (out _ (argsR_one _ q))
    | own => simp only [f] at h; exact h _ _ (out _ (argsR_one _ ⟨ew, s, e⟩))
    | lent => simp only [f] at h; exact h _ _ (out _ (argsR_one _ ⟨ew, s, e⟩))
    | fns => simp only [f] at h; exact h _ _ (out _ (argsR_one _ ⟨ew, s, e⟩))
theorem sa_of {e : Expr} {m : Rho → R (Ow × D)} (he : SE C X e m) : SA C X e (fun r => (m r).bind fun v r' => .ok (.tmp v.1 v.2) r') := by
  intro W tk
  refine PE.imp (he W tk) ?_
  rintro σ H Q ⟨Z, ρ, r0, h⟩
  refine ⟨Z, ρ, r0, ?_⟩
  change Left C W (G1 C) Z ρ σ H ((m ρ).bind fun v r' => .ok (.tmp v.1 v.2) r') Q at h
  cases e1 : m ρ with
  | no => rw [e1] at h; exact h
  | ex c ρ' => rw [e1] at h; exact h
  | ok v ρ' =>
    rw [e1] at h
    intro x H' p
    obtain ⟨o, d⟩ := v
    have vals : o ≠ .own → G1 C Z ρ σ H ρ' (.tmp o d) x H' := fun n => by
      have w := p.val r0
      have k : Keep (Av Z ρ' σ) H' H' := fun _ _ e _ => e
      have q : Rp C.K (Av (zL Z []) ρ' σ) H' d x := Rp.keep k (fun b _ p => ⟨fun z => p.1 (zL_nil _ z), p.2⟩) _ _ w.2
      refine ⟨[], p.fr, p.mono, fun a m => (by cases m), w.1.weak zL_nil, argsR_one _ ?_⟩
      cases o with
      | val => exact q
      | one => exact q
      | own => exact absurd rfl n
    cases o with
    | val => exact h x H' (vals (by decide))
    | one => exact h x H' (vals (by decide))
    | own =>
      obtain ⟨a, rfl, na, rl, t⟩ := p.res
      have e1 : ∀ b, zL Z [a] b → zAnd Z a b := fun b z => z.imp id fun z => by simpa using z
      have k : ∀ P, Keep P H' H' := fun _ _ _ e _ => e
      refine h _ H' ⟨[a], p.fr, p.mono, fun b m => (by simp at m; subst m; exact na), rl.weak e1, argsR_one _ ⟨a, rfl, by simp, Top.keep (k _) (fun b _ q => ⟨fun z => q.1 (e1 b z), q.2⟩) (fun _ e _ => e) t⟩⟩
theorem sg_nil : SG C X [] (fun r => .ok [] r) := by
  intro W tk
  refine PA.imp pa_nil ?_
  rintro σ H Q ⟨Z, ρ, r0, h⟩
  refine h [] H ⟨[], Fr.refl _ _ _, Mono.refl _, fun a m => (by cases m), r0.weak zL_nil, rfl, fun k i e => by simp at e, fun k o d e => by simp at e, fun k d e => by simp at e, fun k l d d' a e => by simp at e⟩
/-- what has come outlasts what follows -/
theorem ArgsR.stay (r : Rel C (zL Z ads1) ρ1 σ H1) (f : Fr ρ1 σ H1 H2) (m : Mono ρ1 ρ2) (hf : ∀ a ∈ ads2, H1 a = none) (q : ArgsR C Z ads1 ρ1 σ H1 as xs) : ArgsR C Z (ads1 ++ ads2) ρ2 σ H2 as xs := by
  have hp : ∀ b, (∃ o, H1 b = some o) → Av (zL Z ads1) ρ1 σ b → Av (zL Z (ads1 ++ ads2)) ρ2 σ b := fun b ⟨o, eo⟩ p => by
    refine ⟨fun z => ?_, fun z => p.2 (m.priv z)⟩
    rcases z with z | z
    · exact p.1 (.inl z)
    · rcases List.mem_append.1 z with z | z
      · exact p.1 (.inr z)
      · rw [hf b z] at eo; cases eo
  refine ⟨q.len, fun k i e => ?_, fun k o d e n => ?_, fun k d e => ?_, q.inj⟩
  · obtain ⟨x, e1, e2, s, es⟩ := q.ref k i e
    obtain ⟨e0, nf⟩ := getS_some es
    obtain ⟨s', e'⟩ := m.fw i s e0
    refine ⟨x, e1, e2, s', getS_of e' fun w => ?_⟩
    obtain ⟨s0, h0, _, f0, _⟩ := m.bk i s' e'
    rw [e0] at h0; cases h0
    rcases f0 with f0 | ⟨f0, _⟩
    · exact nf (f0.symm.trans w)
    · rw [f0] at w; cases w
  · obtain ⟨x, e1, e2⟩ := q.val k o d e n
    exact ⟨x, e1, Rp.keep (r.keep f) hp _ _ e2⟩
  · obtain ⟨a, e1, e2, t⟩ := q.own k d e
    exact ⟨a, e1, List.mem_append_left _ e2, Top.keep (r.keep f) hp (fun o eo n => f.kp a o eo n fun w => r.privZ w.priv (.inr e2)) t⟩
theorem sg_cons {e : Expr} {es : List Expr} {m : Rho → R Arg} {ms : Rho → R (List Arg)} (hs : starEach (e :: es) X.env = (false, eval e X.env) :: starEach es X.env) (a : SA C X e m) (t : SG C X es ms) :
    SG C X (e :: es) (fun r => (m r).bind fun d r1 => (ms r1).bind fun ds r2 => .ok (d :: ds) r2) := by
  intro W tk
  refine PA.imp (pa_cons (a W tk) (t W tk) hs) ?_
  rintro σ H Q ⟨Z, ρ, r0, h⟩
  refine ⟨Z, ρ, r0, ?_⟩
  change LeftL C W (GG C) Z ρ σ H ((m ρ).bind fun d r1 => (ms r1).bind fun ds r2 => .ok (d :: ds) r2) Q at h
  cases e1 : m ρ with
  | no => rw [e1] at h; exact h
  | ex c ρ1 => rw [e1] at h; exact h
  | ok ar ρ1 =>
    rw [e1] at h
    rintro x H1 ⟨ads1, p1⟩
    refine ⟨_, ρ1, p1.rel, ?_⟩
    change LeftL C W (GG C) Z ρ σ H ((ms ρ1).bind fun ds r2 => .ok (ar :: ds) r2) Q at h
    cases e2 : ms ρ1 with
    | no => rw [e2] at h; exact h
    | ex c ρ2 =>
      rw [e2] at h
      exact fun H2 p => h H2 ⟨p1.fr.trans p1.mono p.fr, p1.mono.trans p.mono, p.rel.weak fun a z => .inl z⟩
    | ok ars ρ2 =>
      rw [e2] at h
      rintro xs H2 ⟨ads2, p2⟩
      have z1 : ∀ b, zL Z (ads1 ++ ads2) b → zL (zL Z ads1) ads2 b := fun b z => by
        rcases z with z | z
        · exact .inl (.inl z)
        · rcases List.mem_append.1 z with z | z
          · exact .inl (.inr z)
          · exact .inr z
      have s1 := p1.args.stay p1.rel p2.fr p2.mono p2.fresh
      have k : ∀ P, Keep P H2 H2 := fun _ _ _ e _ => e
      have av : ∀ b, Av (zL (zL Z ads1) ads2) ρ2 σ b → Av (zL Z (ads1 ++ ads2)) ρ2 σ b := fun b q => ⟨fun z => q.1 (z1 b z), q.2⟩
      have x0 : ∀ y, [x][0]? = some y → x = y := fun y e => by simpa using e
      refine h (x :: xs) H2 ⟨ads1 ++ ads2, p1.fr.trans p1.mono p2.fr, p1.mono.trans p2.mono, fun a ma => ?_, p2.rel.weak z1, by simp [p2.args.len], fun k i e => ?_, fun k o d e n => ?_, fun k d e => ?_, fun k l d d' a e e' ek el => ?_⟩
      · rcases List.mem_append.1 ma with ma | ma
        · exact p1.fresh a ma
        · exact p1.fr.none (p2.fresh a ma)
      · cases k with
        | zero =>
          obtain ⟨y, ey, q⟩ := s1.ref 0 i (by simpa using e)
          exact ⟨y, by simpa using ey, q⟩
        | succ k =>
          obtain ⟨y, ey, q⟩ := p2.args.ref k i (by simpa using e)
          exact ⟨y, by simpa using ey, q⟩
      · cases k with
        | zero =>
          obtain ⟨y, ey, q⟩ := s1.val 0 o d (by simpa using e) n
          exact ⟨y, by simpa using ey, q⟩
        | succ k' =>
          obtain ⟨y, ey, q⟩ := p2.args.val k' o d (by simpa using e) n
          exact ⟨y, by simpa using ey, Rp.keep (k _) (fun b _ => av b) _ _ q⟩
      · cases k with
        | zero =>
          obtain ⟨a, ey, q⟩ := s1.own 0 d (by simpa using e)
          exact ⟨a, by simpa using ey, q⟩
        | succ k' =>
          obtain ⟨a, ey, ma, q⟩ := p2.args.own k' d (by simpa using e)
          exact ⟨a, by simpa using ey, List.mem_append_right _ ma, Top.keep (k _) (fun b _ => av b) (fun _ e _ => e) q⟩
      · have dif : ∀ (j : Nat) (d0 d1 : D), [ar][0]? = some (Arg.tmp .own d0) → ars[j]? = some (Arg.tmp .own d1) → [x][0]? = some (.ref a) → xs[j]? = some (.ref a) → False := fun j d0 d1 e0 e1 e2 e3 => by
          obtain ⟨b, eb, mb, tb⟩ := p1.args.own 0 d0 e0
          rw [e2] at eb; cases eb
          obtain ⟨c, ec, mc, _⟩ := p2.args.own j d1 e1
          rw [e3] at ec; cases ec
          obtain ⟨o, eo, _⟩ := tb.there
          rw [p2.fresh a mc] at eo; cases eo
        cases k with
        | zero =>
          cases l with
          | zero => rfl
          | succ l => exact (dif l d d' (by simpa using e) (by simpa using e') (by simpa using ek) (by simpa using el)).elim
        | succ k' =>
          cases l with
          | zero => exact (dif k' d' d (by simpa using e') (by simpa using e) (by simpa using el) (by simpa using ek)).elim
          | succ l => rw [p2.args.inj k' l d d' a (by simpa using e) (by simpa using e') (by simpa using ek) (by simpa using el)]
end
end VS
end

section
set_option autoImplicit false
set_option linter.all false
/-! VCallU: into a call and out of it. -/
namespace VS
open PySem PySem.Spec PyProof.Rows L2

/-- no lambdas in slots -/
def RC.plain (C : RC) : RC := ⟨C.K, C.cv, C.T, fun _ _ _ _ => False, fun _ _ _ _ _ h _ => h.elim⟩
/-- what the callee has to keep its values from -/
def zC (Z : Addr → Prop) (ρ : Rho) (σ : L2.St) (ps : Rho) (τ : L2.St) : Addr → Prop := fun b => (Z b ∨ Priv ρ σ b) ∧ ¬ Priv ps τ b
section
variable {C : RC} {X : Cx} {W : WX} {Z : Addr → Prop} {ρ ρ0 ρ1 ρ2 ρ' ps os : Rho} {σ : L2.St} {H H0 H1 H2 H' : Hp} {ads : List Addr} {as : List Arg} {xs : List V} {x : V} {d : D} {b : Addr}
theorem tau_at {k : Nat} {x : V} (e : xs[k]? = some x) : (xs.map some)[k]? = some (some x) := by simp [e]
theorem tau_of {k : Nat} {x : V} (e : (xs.map some)[k]? = some (some x)) : xs[k]? = some x := by
  simp only [List.getElem?_map, Option.map_eq_some_iff, Option.some.injEq] at e
  obtain ⟨y, e1, rfl⟩ := e
  exact e1
/-- an argument's slot -/
theorem psCase (q : ArgsR C Z ads ρ σ H as xs) (e : argSlots ρ as = some ps) {k : Nat} {s : Slot} (h : ps[k]? = some (some s)) :
    (∃ (i : Nat) (t : Slot) (x : V), as[k]? = some (Arg.ref i) ∧ getS ρ i = some t ∧ s = ⟨t.f, true, t.d⟩ ∧ xs[k]? = some x ∧ σ[i]? = some (some x)) ∨ ∃ (o : Ow) (d : D), as[k]? = some (Arg.tmp o d) ∧ s = ⟨o.fl, true, d⟩ := by
  obtain ⟨l, h1, h2⟩ := argSlots_get e
  have hk : k < as.length := by
    rw [← l]
    exact (List.getElem?_eq_some_iff.1 h).1
  have ea := List.getElem?_eq_getElem hk
  generalize as[k] = ar at ea
  cases ar with
  | ref i =>
    obtain ⟨t, et, ep⟩ := h1 k i ea
    rw [h] at ep
    obtain ⟨x, ex, sx, _⟩ := q.ref k i ea
    exact .inl ⟨i, t, x, ea, et, by simpa using ep, ex, sx⟩
  | tmp o d =>
    have ep := h2 k o d ea
    rw [h] at ep
    exact .inr ⟨o, d, ea, by simpa using ep⟩
theorem privPs (q : ArgsR C Z ads ρ σ H as xs) (e : argSlots ρ as = some ps) (h : Priv ps (xs.map some) b) :
    (∃ (k i : Nat) (t : Slot), as[k]? = some (Arg.ref i) ∧ ρ[i]? = some (some t) ∧ (t.f = .own ∨ t.f = .lent) ∧ σ[i]? = some (some (.ref b))) ∨ b ∈ ads := by
  obtain ⟨k, s, h1, h2, h3⟩ := h
  rcases psCase q e h1 with ⟨i, t, x, ea, et, rfl, ex, sx⟩ | ⟨o, d, ea, rfl⟩
  · have := tau_of h3
    rw [ex] at this; cases this
    exact .inl ⟨k, i, t, ea, (getS_some et).1, h2, sx⟩
  · have ho : o = .own := by
      cases o with
      | own => rfl
      | val => rcases h2 with h2 | h2 <;> cases h2
      | one => rcases h2 with h2 | h2 <;> cases h2
    subst ho
    obtain ⟨a, e1, m, _⟩ := q.own k d ea
    have := tau_of h3
    rw [e1] at this; cases this
    exact .inr m
theorem ownPs (q : ArgsR C Z ads ρ σ H as xs) (e : argSlots ρ as = some ps) (h : Own ps (xs.map some) b) : Own ρ σ b ∨ b ∈ ads := by
  obtain ⟨k, s, h1, h2, h3⟩ := h
  rcases psCase q e h1 with ⟨i, t, x, ea, et, rfl, ex, sx⟩ | ⟨o, d, ea, rfl⟩
  · have := tau_of h3
    rw [ex] at this; cases this
    exact .inl ⟨i, t, (getS_some et).1, h2, sx⟩
  · have ho : o = .own := by
      cases o with
      | own => rfl
      | val => cases h2
      | one => cases h2
    subst ho
    obtain ⟨a, e1, m, _⟩ := q.own k d ea
    have := tau_of h3
    rw [e1] at this; cases this
    exact .inr m
theorem privPs' (q : ArgsR C Z ads ρ σ H as xs) (e : argSlots ρ as = some ps) (h : Priv ps (xs.map some) b) : Priv ρ σ b ∨ b ∈ ads :=
  (privPs q e h).imp (fun ⟨_, i, t, _, h1, h2, h3⟩ => ⟨i, t, h1, h2, h3⟩) id
theorem avIn (q : ArgsR C Z ads ρ σ H as xs) (e : argSlots ρ as = some ps) (h : Av (zL Z ads) ρ σ b) : Av (zC Z ρ σ ps (xs.map some)) ps (xs.map some) b :=
  ⟨fun z => z.1.elim (fun z => h.1 (.inl z)) h.2, fun z => (privPs' q e z).elim h.2 fun z => h.1 (.inr z)⟩
theorem Rel.enter (r : Rel C (zL Z ads) ρ σ H) (q : ArgsR C Z ads ρ σ H as xs) (n : nodupN (refs as) = true) (e : argSlots ρ as = some ps) : Rel C.plain (zC Z ρ σ ps (xs.map some)) ps (xs.map some) H := by
  have k : ∀ P, Keep P H H := fun _ _ _ e _ => e
  have av : ∀ b, (∃ o, H b = some o) → Av (zL Z ads) ρ σ b → Av (zC Z ρ σ ps (xs.map some)) ps (xs.map some) b := fun b _ h => avIn q e h
  refine ⟨by rw [(argSlots_get e).1, List.length_map, q.len], r.tab, fun a z => z.1.elim (fun z => r.zd a (.inl z)) r.privThere, fun j s h f => ?_, fun j s h f => ?_, fun j s h f => ?_, fun j s h f => ?_, fun j l s t a h1 h2 f1 f2 e1 e2 => ?_⟩
  · rcases psCase q e h with ⟨i, t, x, ea, et, rfl, ex, sx⟩ | ⟨o, d, ea, rfl⟩
    · obtain ⟨y, ey, w⟩ := r.val i t (getS_some et).1 f
      rw [sx] at ey; cases ey
      exact ⟨x, tau_at ex, Rp.keep (k _) av _ _ w⟩
    · have ho : o ≠ .own := fun z => by subst z; cases f
      obtain ⟨x, ex, w⟩ := q.val j o d ea ho
      exact ⟨x, tau_at ex, Rp.keep (k _) av _ _ w⟩
  · have pv : ∀ a, (xs.map some)[j]? = some (some (.ref a)) → ¬ zC Z ρ σ ps (xs.map some) a := fun a ea z => z.2 ⟨j, s, h, .inl f, ea⟩
    rcases psCase q e h with ⟨i, t, x, ea, et, rfl, ex, sx⟩ | ⟨o, d, ea, rfl⟩
    · obtain ⟨a, ey, _, w⟩ := r.own i t (getS_some et).1 f
      rw [sx] at ey; cases ey
      exact ⟨a, tau_at ex, pv a (tau_at ex), Top.keep (k _) av (fun _ e _ => e) w⟩
    · have ho : o = .own := by
        cases o with
        | own => rfl
        | val => cases f
        | one => cases f
      subst ho
      obtain ⟨a, ex, _, w⟩ := q.own j d ea
      exact ⟨a, tau_at ex, pv a (tau_at ex), Top.keep (k _) av (fun _ e _ => e) w⟩
  · have pv : ∀ a, (xs.map some)[j]? = some (some (.ref a)) → ¬ zC Z ρ σ ps (xs.map some) a := fun a ea z => z.2 ⟨j, s, h, .inr f, ea⟩
    rcases psCase q e h with ⟨i, t, x, ea, et, rfl, ex, sx⟩ | ⟨o, d, ea, rfl⟩
    · obtain ⟨a, ey, _, w⟩ := r.lent i t (getS_some et).1 f
      rw [sx] at ey; cases ey
      exact ⟨a, tau_at ex, pv a (tau_at ex), TopR.keep (k _) av (fun _ e _ => e) w⟩
    · cases o <;> cases f
  · rcases psCase q e h with ⟨i, t, x, ea, et, rfl, ex, sx⟩ | ⟨o, d, ea, rfl⟩
    · exact absurd f (getS_some et).2
    · cases o <;> cases f
  · have own : ∀ {j : Nat} {o : Ow} {d : D}, as[j]? = some (Arg.tmp o d) → (⟨o.fl, true, d⟩ : Slot).f = .own ∨ (⟨o.fl, true, d⟩ : Slot).f = .lent → (xs.map some)[j]? = some (some (.ref a)) → o = .own ∧ a ∈ ads := fun {j o d} ea f ex => by
      have ho : o = .own := by
        cases o with
        | own => rfl
        | val => rcases f with f | f <;> cases f
        | one => rcases f with f | f <;> cases f
      subst ho
      obtain ⟨a', e1, m, _⟩ := q.own j d ea
      have := tau_of ex
      rw [e1] at this; cases this
      exact ⟨rfl, m⟩
    rcases psCase q e h1 with ⟨i, t1, x, ea, et, rfl, ex, sx⟩ | ⟨o, d, ea, rfl⟩
    · have := tau_of e1
      rw [ex] at this; cases this
      rcases psCase q e h2 with ⟨i2, t2, x2, ea2, et2, rfl, ex2, sx2⟩ | ⟨o2, d2, ea2, rfl⟩
      · have := tau_of e2
        rw [ex2] at this; cases this
        have z := r.apart i i2 t1 t2 a (getS_some et).1 (getS_some et2).1 f1 f2 sx sx2
        subst z
        exact nodup_refs n j l i ea ea2
      · have m := (own ea2 f2 e2).2
        exact absurd (.inr m) (r.privZ ⟨i, t1, (getS_some et).1, f1, sx⟩)
    · obtain ⟨rfl, m⟩ := own ea f1 e1
      rcases psCase q e h2 with ⟨i2, t2, x2, ea2, et2, rfl, ex2, sx2⟩ | ⟨o2, d2, ea2, rfl⟩
      · have := tau_of e2
        rw [ex2] at this; cases this
        exact absurd (.inr m) (r.privZ ⟨i2, t2, (getS_some et2).1, f2, sx2⟩)
      · obtain ⟨rfl, _⟩ := own ea2 f2 e2
        exact q.inj j l d d2 a ea ea2 (tau_of e1) (tau_of e2)
/-- a slot behind a call -/
theorem backCase (q : ArgsR C Z ads ρ σ H as xs) (n : nodupN (refs as) = true) (e : argSlots ρ as = some ps) (hb : backArgs ρ as os = some ρ') (f : SFr ps (xs.map some) H os (xs.map some) H1) {j : Nat} {s : Slot} (h : ρ'[j]? = some (some s)) :
    (j ∉ refs as ∧ ρ[j]? = some (some s)) ∨ ∃ (k : Nat) (so t : Slot) (x : V), as[k]? = some (Arg.ref j) ∧ os[k]? = some (some so) ∧ ρ[j]? = some (some t) ∧ t.f ≠ .fns ∧ s = ⟨so.f, t.p, so.d⟩ ∧ xs[k]? = some x ∧ σ[j]? = some (some x) ∧
      (so.f = .own → t.f = .own) ∧ (so.f = .lent → t.f = .lent) ∧ so.f ≠ .fns ∧ (t.f ≠ .own → so.d = t.d) := by
  obtain ⟨_, h1, h2⟩ := backArgs_get n hb
  by_cases m : j ∈ refs as
  · obtain ⟨k, ek⟩ := refs_mem.1 m
    obtain ⟨so, t, e1, e2, e3, e4⟩ := h2 k j ek
    rw [h] at e4
    obtain ⟨x, ex, sx, _⟩ := q.ref k j ek
    obtain ⟨s0, h0, p0, _, o0, _, n0, d0⟩ := f.par k so e1 e3
    obtain ⟨_, g1, _⟩ := argSlots_get e
    obtain ⟨t', et', ep⟩ := g1 k j ek
    rw [e2] at et'; cases et'
    rw [h0] at ep
    simp only [Option.some.injEq] at ep
    subst ep
    refine .inr ⟨k, so, t, x, ek, e1, (getS_some e2).1, (getS_some e2).2, by simpa using e4, ex, sx, o0, fun z => ?_, fun z => (getS_some e2).2 (n0.1 z), d0⟩
    obtain ⟨s1, g1, f1, _⟩ := f.lnt k so e1 z
    rw [h0] at g1; cases g1
    exact f1
  · refine .inl ⟨m, ?_⟩
    rw [← h1 j m]; exact h
theorem backPriv (q : ArgsR C Z ads ρ σ H as xs) (n : nodupN (refs as) = true) (e : argSlots ρ as = some ps) (hb : backArgs ρ as os = some ρ') (f : SFr ps (xs.map some) H os (xs.map some) H1) (h : Priv ρ' σ b) : Priv ρ σ b := by
  obtain ⟨j, s, h1, h2, h3⟩ := h
  rcases backCase q n e hb f h1 with ⟨_, h⟩ | ⟨k, so, t, x, _, _, et, _, rfl, _, _, o1, l1, _, _⟩
  · exact ⟨j, s, h, h2, h3⟩
  · exact ⟨j, t, et, h2.imp o1 l1, h3⟩
theorem Rel.leave {Zx : Addr → Prop} (r : Rel C (zL Z ads) ρ σ H) (q : ArgsR C Z ads ρ σ H as xs) (n : nodupN (refs as) = true) (e : argSlots ρ as = some ps) (hz : ∀ a ∈ ads, ¬ Z a) (hb : backArgs ρ as os = some ρ') (f : SFr ps (xs.map some) H os (xs.map some) H1)
    (hx : ∀ b, Zx b → H b = none) (rl : Rel C.plain (fun b => zC Z ρ σ ps (xs.map some) b ∨ Zx b) os (xs.map some) H1) :
    Rel C (fun b => Z b ∨ Zx b) ρ' σ H1 ∧ Mono ρ ρ' ∧ (∀ b, Av (fun b => zC Z ρ σ ps (xs.map some) b ∨ Zx b) os (xs.map some) b → Av (fun b => Z b ∨ Zx b) ρ' σ b) := by
  have pin : ∀ b, Priv ps (xs.map some) b → ¬ Z b := fun b w z => (privPs' q e w).elim (fun w => r.privZ w (.inl z)) fun w => hz b w z
  have avOut : ∀ b, Av (fun b => zC Z ρ σ ps (xs.map some) b ∨ Zx b) os (xs.map some) b → Av (fun b => Z b ∨ Zx b) ρ' σ b := fun b p => by
    refine ⟨fun z => z.elim (fun z => p.1 (.inl ⟨.inl z, fun w => pin b w z⟩)) fun z => p.1 (.inr z), fun w => ?_⟩
    have w0 := backPriv q n e hb f w
    by_cases wp : Priv ps (xs.map some) b
    · rcases privPs q e wp with ⟨k, i, t, ek, et, ft, si⟩ | w1
      · obtain ⟨j, s, h1, h2, h3⟩ := w
        rcases backCase q n e hb f h1 with ⟨nm, h⟩ | ⟨k2, so, t2, x, ek2, eo, et2, _, rfl, ex, sx, o1, l1, _, _⟩
        · have z := r.apart i j t s b et h ft h2 si h3
          subst z
          exact nm (refs_mem.2 ⟨k, ek⟩)
        · rw [h3] at sx; cases sx
          exact p.2 ⟨k2, so, eo, h2, tau_at ex⟩
      · exact r.privZ w0 (.inr w1)
    · exact p.1 (.inl ⟨.inr w0, wp⟩)
  have re := r.enter q n e
  have notOwnPs : ∀ b, Av (zL Z ads) ρ σ b → ¬ Own ps (xs.map some) b := fun b p w => (privPs' q e w.priv).elim p.2 fun w => p.1 (.inr w)
  have kk : Keep (Av (zL Z ads) ρ σ) H H1 := re.keepP f.fr notOwnPs
  have avThru : ∀ b, (∃ o, H b = some o) → Av (zL Z ads) ρ σ b → Av (fun b => Z b ∨ Zx b) ρ' σ b := fun b ⟨o, eo⟩ p =>
    ⟨fun z => z.elim (fun z => p.1 (.inl z)) fun z => (by rw [hx b z] at eo; cases eo), fun w => p.2 (backPriv q n e hb f w)⟩
  have k1 : ∀ P, Keep P H1 H1 := fun _ _ _ e _ => e
  have nz : ∀ a, (∃ o, H a = some o) → ¬ zL Z ads a → ¬ (Z a ∨ Zx a) := fun a ⟨o, eo⟩ z w => w.elim (fun w => z (.inl w)) fun w => by rw [hx a w] at eo; cases eo
  have m : Mono ρ ρ' := by
    obtain ⟨l, h1, h2⟩ := backArgs_get n hb
    refine ⟨l, fun j s h => ?_, fun j s h => ?_⟩
    · rcases backCase q n e hb f h with ⟨_, h⟩ | ⟨k, so, t, x, _, _, et, nf, rfl, _, _, o1, l1, nfo, d1⟩
      · exact ⟨s, h, rfl, .inl rfl, fun _ => rfl⟩
      · refine ⟨t, et, rfl, ?_, d1⟩
        cases fo : so.f with
        | own => exact .inl (o1 fo).symm
        | lent => exact .inl (l1 fo).symm
        | val => exact .inr ⟨rfl, nf⟩
        | fns => exact absurd fo nfo
    · by_cases mm : j ∈ refs as
      · obtain ⟨k, ek⟩ := refs_mem.1 mm
        obtain ⟨so, t, _, _, _, e4⟩ := h2 k j ek
        exact ⟨_, e4⟩
      · exact ⟨s, by rw [h1 j mm]; exact h⟩
  refine ⟨⟨by rw [m.len]; exact r.len, rl.tab, fun a z => z.elim (fun z => let ⟨o, eo⟩ := r.zd a (.inl z); f.fr.dom a o eo) fun z => rl.zd a (.inr z), fun j s h g => ?_, fun j s h g => ?_, fun j s h g => ?_, fun j s h g => ?_, fun j l s t a h1 h2 f1 f2 e1 e2 => ?_⟩, m, avOut⟩
  · rcases backCase q n e hb f h with ⟨_, h⟩ | ⟨k, so, t, x, _, eo, _, _, rfl, ex, sx, _⟩
    · obtain ⟨y, ey, w⟩ := r.val j s h g
      exact ⟨y, ey, Rp.keep kk avThru _ _ w⟩
    · obtain ⟨y, ey, w⟩ := rl.val k so eo g
      rw [tau_at ex] at ey; cases ey
      exact ⟨x, sx, Rp.keep (k1 _) (fun b _ => avOut b) _ _ w⟩
  · rcases backCase q n e hb f h with ⟨nm, h⟩ | ⟨k, so, t, x, _, eo, et, _, rfl, ex, sx, o1, _⟩
    · obtain ⟨a, ey, na, w⟩ := r.own j s h g
      refine ⟨a, ey, nz a (TopR.some w.r) na, Top.keep kk avThru (fun o eo no => f.fr.kp a o eo no fun z => ?_) w⟩
      rcases privPs q e z.priv with ⟨k, i, t, ek, et, ft, si⟩ | z
      · have := r.apart i j t s a et h ft (.inl g) si ey
        subst this
        exact nm (refs_mem.2 ⟨k, ek⟩)
      · exact na (.inr z)
    · obtain ⟨a, ey, na, w⟩ := rl.own k so eo g
      rw [tau_at ex] at ey; cases ey
      exact ⟨a, sx, fun z => z.elim (fun z => r.privZ ⟨j, t, et, .inl (o1 g), sx⟩ (.inl z)) fun z => na (.inr z), Top.keep (k1 _) (fun b _ => avOut b) (fun _ e _ => e) w⟩
  · rcases backCase q n e hb f h with ⟨nm, h⟩ | ⟨k, so, t, x, _, eo, et, _, rfl, ex, sx, _, l1, _⟩
    · obtain ⟨a, ey, na, w⟩ := r.lent j s h g
      refine ⟨a, ey, nz a (TopR.some w) na, TopR.keep kk avThru (fun o eo no => f.fr.kp a o eo no fun z => ?_) w⟩
      rcases privPs q e z.priv with ⟨k, i, t, ek, et, ft, si⟩ | z
      · have := r.apart i j t s a et h ft (.inr g) si ey
        subst this
        exact nm (refs_mem.2 ⟨k, ek⟩)
      · exact na (.inr z)
    · obtain ⟨a, ey, na, w⟩ := rl.lent k so eo g
      rw [tau_at ex] at ey; cases ey
      exact ⟨a, sx, fun z => z.elim (fun z => r.privZ ⟨j, t, et, .inr (l1 g), sx⟩ (.inl z)) fun z => na (.inr z), TopR.keep (k1 _) (fun b _ => avOut b) (fun _ e _ => e) w⟩
  · rcases backCase q n e hb f h with ⟨nm, h⟩ | ⟨k, so, t, x, _, eo, _, _, rfl, ex, sx, _, _, nfo, _⟩
    · obtain ⟨c, y, e1, e2, w, z⟩ := r.fns j s h g
      refine ⟨c, y, e1, e2, C.st j c y H H1 w fun a o eo nt kx => f.fr.kp a o eo nt fun ow => ?_, fun a ea => ⟨let ⟨o, eo⟩ := (z a ea).1; f.fr.dom a o eo, nz a (z a ea).1 (z a ea).2.1, fun w => (z a ea).2.2 (backPriv q n e hb f w)⟩⟩
      rcases kx with ⟨φ, kx⟩ | kx
      · obtain ⟨o', eo', q⟩ := re.ownThere ow
        rw [eo] at eo'; cases eo'
        rw [kx] at q
        rcases q with ⟨_, q⟩ | ⟨_, q⟩ | ⟨_, q⟩ <;> cases q
      · exact (privPs' q e ow.priv).elim (z a kx).2.2 fun w => (z a kx).2.1 (.inr w)
    · exact absurd g nfo
  · have back : ∀ (j : Nat) (s : Slot), ρ'[j]? = some (some s) → s.f = .own ∨ s.f = .lent → ∃ t, ρ[j]? = some (some t) ∧ (t.f = .own ∨ t.f = .lent) := fun j s h g => by
      rcases backCase q n e hb f h with ⟨_, h⟩ | ⟨k, so, t, x, _, _, et, _, rfl, _, _, o1, l1, _, _⟩
      · exact ⟨s, h, g⟩
      · exact ⟨t, et, g.imp o1 l1⟩
    obtain ⟨s', es, fs⟩ := back j s h1 f1
    obtain ⟨t', et, ft⟩ := back l t h2 f2
    exact r.apart j l s' t' a es et fs ft e1 e2
end
end VS
end

section
set_option autoImplicit false
set_option linter.all false
/-! VCallE: a call of one's own def as an expression. -/
namespace VS
open PySem PySem.Spec PyProof.Rows L2

/-- a def's promise: what the evaluator says -/
def spC (C : RC) (call : Rho → CR) (np : Nat) : Sp := fun vs H Q E => vs.length = np ∧ ∃ Z ps, Rel C Z ps (vs.map some) H ∧ (∀ (k : Nat) (s : Slot), ps[k]? = some (some s) → s.p = true) ∧ match call ps with
  | .ret o d os => ∀ v H', RPost C Z ps (vs.map some) H os (vs.map some) o d v H' → Q v H'
  | .ex c os => ∀ H', SPost C Z ps (vs.map some) H os (vs.map some) H' → E (C.cv c) none H'
  | .no => False
section
variable {C : RC} {X : Cx} {W : WX} {Z : Addr → Prop} {ρ ρ0 ρ1 ρ2 ρ' ps os : Rho} {σ : L2.St} {H H0 H1 H2 H' : Hp} {ads : List Addr} {as : List Arg} {xs : List V} {x : V} {d : D} {b : Addr}
theorem callFr (p : GPost C Z ρ σ H ρ1 as xs H1 ads) (e : argSlots ρ1 as = some ps) (f : Fr ps (xs.map some) H1 H') : Fr ρ σ H H' := by
  refine ⟨fun a o h n w => f.kp a o (p.fr.kp a o h n w) n fun z => ?_, fun a o h => let ⟨o1, h1⟩ := p.fr.dom a o h; f.dom a o1 h1⟩
  rcases ownPs p.args e z with z | z
  · exact w (p.mono.own z)
  · rw [p.fresh a z] at h; cases h
theorem callE (r0 : Rel C Z ρ σ H) (p : GPost C Z ρ σ H ρ1 as xs H1 ads) (n : nodupN (refs as) = true) (e : argSlots ρ1 as = some ps) (hp : ∀ (k : Nat) (s : Slot), ps[k]? = some (some s) → s.p = true) (hb : backArgs ρ1 as os = some ρ') {o : Ow} {v : V}
    (q : RPost C.plain (zC Z ρ1 σ ps (xs.map some)) ps (xs.map some) H1 os (xs.map some) o d v H') : EPost C Z ρ σ H ρ' o d v H' := by
  have fr := callFr p e q.sfr.fr
  have hz : ∀ a ∈ ads, ¬ Z a := fun a m z => by
    obtain ⟨o, eo⟩ := r0.zd a z
    rw [p.fresh a m] at eo; cases eo
  have k1 : ∀ P, Keep P H' H' := fun _ _ _ e _ => e
  have w := q.res
  cases o with
  | val =>
    have L := Rel.leave (Zx := fun _ => False) p.rel p.args n e hz hb q.sfr (fun _ z => z.elim) (w.1.weak fun b z => z.elim id False.elim)
    refine ⟨fr, p.mono.trans L.2.1, L.1.weak fun b z => .inl z, Rp.keep (k1 _) (fun b _ u => ?_) _ _ w.2⟩
    have := L.2.2 b ⟨fun z => z.elim u.1 id, u.2⟩
    exact ⟨fun z => this.1 (.inl z), this.2⟩
  | own =>
    obtain ⟨a, rfl, na, w, t⟩ := w
    have na : H1 a = none := na.elim (fun ⟨k, s, g1, _, g3, _⟩ => by rw [hp k s g1] at g3; cases g3) id
    have L := Rel.leave (Zx := fun b => b = a) p.rel p.args n e hz hb q.sfr (fun b z => by rw [z]; exact na) w
    exact ⟨fr, p.mono.trans L.2.1, a, rfl, p.fr.none na, L.1, Top.keep (k1 _) (fun b _ u => L.2.2 b u) (fun _ e _ => e) t⟩
  | one =>
    obtain ⟨a, b, d1, rfl, rfl, na, nb, ne, ea, w, t⟩ := w
    have L := Rel.leave (Zx := fun c => c = a ∨ c = b) p.rel p.args n e hz hb q.sfr (fun c z => by rcases z with z | z <;> rw [z] <;> assumption) (w.weak fun c z => by
      rcases z with z | z | z
      · exact .inl (.inl z)
      · exact .inl (.inr z)
      · exact .inr z)
    refine ⟨fr, p.mono.trans L.2.1, a, b, d1, rfl, rfl, p.fr.none na, p.fr.none nb, ne, ea, L.1.weak fun c z => ?_, Top.keep (k1 _) (fun c _ u => ?_) (fun _ e _ => e) t⟩
    · rcases z with (z | z) | z
      · exact .inl z
      · exact .inr (.inl z)
      · exact .inr (.inr z)
    · have := L.2.2 c ⟨fun z => u.1 (by
        rcases z with z | z | z
        · exact .inl (.inl z)
        · exact .inl (.inr z)
        · exact .inr z), u.2⟩
      exact ⟨fun z => this.1 (by
        rcases z with (z | z) | z
        · exact .inl z
        · exact .inr (.inl z)
        · exact .inr (.inr z)), this.2⟩
theorem callX (r0 : Rel C Z ρ σ H) (p : GPost C Z ρ σ H ρ1 as xs H1 ads) (n : nodupN (refs as) = true) (e : argSlots ρ1 as = some ps) (hb : backArgs ρ1 as os = some ρ')
    (q : SPost C.plain (zC Z ρ1 σ ps (xs.map some)) ps (xs.map some) H1 os (xs.map some) H') : XPost C Z ρ σ H ρ' H' := by
  have hz : ∀ a ∈ ads, ¬ Z a := fun a m z => by
    obtain ⟨o, eo⟩ := r0.zd a z
    rw [p.fresh a m] at eo; cases eo
  have L := Rel.leave (Zx := fun _ => False) p.rel p.args n e hz hb q.sfr (fun _ z => z.elim) (q.rel.weak fun b z => z.elim id False.elim)
  exact ⟨callFr p e q.sfr.fr, p.mono.trans L.2.1, L.1.weak fun b z => .inl z⟩
theorem imp_call {ms : Rho → R (List Arg)} {F : Fns} {j np : Nat} {Q : VK} (hl : ∀ r r' as, ms r = .ok as r' → as.length = np) (h : tX C W (fun r => (ms r).bind fun as r' => callR F j as r') (GE C) σ H Q) :
    tCallS (spC C.plain (F.call j) np) (WE W) (tL C W ms (GG C)) σ H Q := by
  obtain ⟨Z, ρ, r0, h⟩ := h
  refine ⟨Z, ρ, r0, ?_⟩
  change Left C W (GE C) Z ρ σ H ((ms ρ).bind fun as r' => callR F j as r') Q at h
  cases e0 : ms ρ with
  | no => rw [e0] at h; exact h
  | ex c ρ1 => rw [e0] at h; exact h
  | ok as ρ1 =>
    rw [e0] at h
    rintro xs H1 ⟨ads, p⟩
    change Left C W (GE C) Z ρ σ H (callR F j as ρ1) Q at h
    unfold callR at h
    cases n : nodupN (refs as) with
    | false => rw [n] at h; exact h.elim
    | true =>
      rw [n] at h
      simp only [if_true] at h
      cases e : argSlots ρ1 as with
      | none => simp only [e] at h; exact h.elim
      | some ps =>
        simp only [e] at h
        have hp : ∀ (k : Nat) (s : Slot), ps[k]? = some (some s) → s.p = true := fun k s g => by
          rcases psCase p.args e g with ⟨_, _, _, _, _, rfl, _⟩ | ⟨_, _, _, rfl⟩ <;> rfl
        refine ⟨by rw [p.args.len]; exact hl _ _ _ e0, zC Z ρ1 σ ps (xs.map some), ps, p.rel.enter p.args n e, hp, ?_⟩
        cases ec : F.call j ps with
        | no => simp only [ec] at h; exact h.elim
        | ret o d os =>
          simp only [ec] at h
          cases hb : backArgs ρ1 as os with
          | none => simp only [hb] at h; exact h.elim
          | some ρ' =>
            simp only [hb] at h
            exact fun v H2 q => h v H2 (callE r0 p n e hp hb q)
        | ex c os =>
          simp only [ec] at h
          cases hb : backArgs ρ1 as os with
          | none => simp only [hb] at h; exact h.elim
          | some ρ' =>
            simp only [hb] at h
            exact fun H2 q => h H2 (callX r0 p n e hb q)
theorem pe_callS0 {CX : CXT} {k : Nat} {f : Addr} {fd : FuncData} {pn : List PySem.Str} {sp : Sp} {E : L2.St → XK} {y : PySem.Str} {p pos : Pos} (F : FnOk X.prog X.w X.K X.mg X.base CX k f fd pn sp) (hr : Room k X.A) (hg : Gl X y) (hm : X.mg y = some (.ref f)) (hk : PySem.W.keepIn X.K (.ref f) = true) (hb : Binds X.K fd pn []) (hx : ∀ σ, PassesAt CX X σ (E σ))
    (hdb : (y == ("__debug__" : PySem.Str)) = false) : PE X (.Call (.Name y p) [] [] pos) (tCallS sp E tNil) := by
  refine ⟨fun pins s σ H Q I h => wpAny_Call_Name_kw (ld_glob I hg hm ?_ hdb)⟩
  exact PySem.W.callWith_K0 I.kIn hk (run_fnS (us := []) F hr hb (hx σ) I .nil h)
theorem se_callU {k j np : Nat} {f : Addr} {fd : FuncData} {pn : List PySem.Str} {y : PySem.Str} {p pos : Pos} {es : List Expr} {ms : Rho → R (List Arg)} {F : Fns} (FO : FnOk X.prog X.w X.K X.mg X.base (CX X.prog X.w) k f fd pn (spC C.plain (F.call j) np)) (hr : Room k X.A) (hg : Gl X y) (hm : X.mg y = some (.ref f)) (hk : PySem.W.keepIn X.K (.ref f) = true) (hb : Binds X.K fd pn [])
    (hdb : (y == ("__debug__" : PySem.Str)) = false) (hs : es.all noStar = true) (ha : SG C X es ms) (hl : ∀ r r' as, ms r = .ok as r' → as.length = np) (h0 : es = [] → ms = fun r => .ok [] r) : SE C X (.Call (.Name y p) es [] pos) (fun r => (ms r).bind fun as r' => callR F j as r') := by
  intro W tk
  cases es with
  | nil =>
    refine PE.imp (pe_callS0 FO hr hg hm hk hb (fun σ => passAt tk σ) hdb) fun σ H Q h => ?_
    have := imp_call hl h
    obtain ⟨Z, ρ, r0, q⟩ := this
    rw [h0 rfl] at q
    exact q [] H ⟨[], Fr.refl _ _ _, Mono.refl _, fun a m => (by cases m), r0.weak zL_nil, rfl, fun k i e => by simp at e, fun k o d e => by simp at e, fun k d e => by simp at e, fun k l d d' a e => by simp at e⟩
  | cons e es =>
    exact PE.imp (pe_callS FO hr hg hm hk hb (fun σ => passAt tk σ) (ha W tk) hdb (star_cons (all_eq hs).1 _ _) (star_any _ _ (all_eq hs).2)) fun σ H Q h => imp_call hl h
end
end VS
end

section
set_option autoImplicit false
set_option linter.all false
/-! VDef: a def keeps the promise of the evaluator. -/
namespace VS
open PySem PySem.Spec PyProof.Rows L2

section
variable {C : RC} {X : Cx} {W : WX} {Z : Addr → Prop} {ρ r ps : Rho} {σ : L2.St} {H H' : Hp} {vs : List V} {N : List PySem.Str} {n ns : Nat} {b : Addr}
theorem ent_at {i : Nat} {s : Slot} (h : (ps ++ List.replicate n none)[i]? = some (some s)) : ps[i]? = some (some s) := by
  rcases Nat.lt_or_ge i ps.length with l | l
  · rw [List.getElem?_append_left l] at h; exact h
  · rw [List.getElem?_append_right l, List.getElem?_replicate] at h
    split at h <;> cases h
theorem start_at {i : Nat} {x : V} (h : (vs.map some)[i]? = some (some x)) : (L2.start N vs)[i]? = some (some x) := by
  unfold L2.start
  have l : i < (vs.map some).length := (List.getElem?_eq_some_iff.1 h).1
  rw [List.getElem?_append_left l]; exact h
theorem start_of {i : Nat} {s : Slot} (hl : ps.length = vs.length) (h : ps[i]? = some (some s)) : (L2.start N vs)[i]? = (vs.map some)[i]? := by
  unfold L2.start
  have l : i < (vs.map some).length := by
    rw [List.length_map, ← hl]
    exact (List.getElem?_eq_some_iff.1 h).1
  rw [List.getElem?_append_left l]
/-- entering -/
theorem Rel.start (r : Rel C.plain Z ps (vs.map some) H) (hn : N.length = vs.length + n) : Rel C Z (ps ++ List.replicate n none) (L2.start N vs) H := by
  have hl : ps.length = vs.length := by rw [r.len, List.length_map]
  have pr : ∀ a, Priv (ps ++ List.replicate n none) (L2.start N vs) a → Priv ps (vs.map some) a := fun a ⟨i, s, h1, h2, h3⟩ => by
    have h := ent_at h1
    rw [start_of hl h] at h3
    exact ⟨i, s, h, h2, h3⟩
  have av : ∀ b, Av Z ps (vs.map some) b → Av Z (ps ++ List.replicate n none) (L2.start N vs) b := fun b p => ⟨p.1, fun w => p.2 (pr b w)⟩
  have k : ∀ P, Keep P H H := fun _ _ _ e _ => e
  refine ⟨by simp [L2.start, hl, hn], r.tab, r.zd, fun i s h f => ?_, fun i s h f => ?_, fun i s h f => ?_, fun i s h f => ?_, fun i j s t a h1 h2 f1 f2 e1 e2 => ?_⟩
  · obtain ⟨x, e, q⟩ := r.val i s (ent_at h) f
    exact ⟨x, start_at e, Rp.keep (k _) (fun b _ => av b) _ _ q⟩
  · obtain ⟨x, e, n, q⟩ := r.own i s (ent_at h) f
    exact ⟨x, start_at e, n, Top.keep (k _) (fun b _ => av b) (fun _ e _ => e) q⟩
  · obtain ⟨x, e, n, q⟩ := r.lent i s (ent_at h) f
    exact ⟨x, start_at e, n, TopR.keep (k _) (fun b _ => av b) (fun _ e _ => e) q⟩
  · obtain ⟨_, _, _, _, q, _⟩ := r.fns i s (ent_at h) f
    exact q.elim
  · rw [start_of hl (ent_at h1)] at e1
    rw [start_of hl (ent_at h2)] at e2
    exact r.apart i j s t a (ent_at h1) (ent_at h2) f1 f2 e1 e2
theorem outs_at {m i : Nat} {s : Slot} (h : (outs m r)[i]? = some (some s)) : i < m ∧ r[i]? = some (some s) ∧ s.p = true := by
  unfold outs at h
  simp only [List.getElem?_map, Option.map_eq_some_iff] at h
  obtain ⟨t, e, q⟩ := h
  rw [List.getElem?_take] at e
  split at e
  · rename_i l
    cases t with
    | none => cases q
    | some t =>
      simp only [keepP] at q
      split at q
      · cases q; rename_i hp; exact ⟨l, e, hp⟩
      · cases q
  · cases e
section
variable {σ' : L2.St} (hl : ps.length = vs.length) (f : SFr (ps ++ List.replicate n none) (L2.start N vs) H r σ' H')
include hl f
theorem outs_sig {i : Nat} {s : Slot} (h : (outs ps.length r)[i]? = some (some s)) : ∃ t, ps[i]? = some (some t) ∧ t.p = true ∧ r[i]? = some (some s) ∧ σ'[i]? = (vs.map some)[i]? ∧ (s.f = .own → t.f = .own) ∧ (s.f = .lent → t.f = .lent ∨ t.f = .own) ∧ (s.f = .fns ↔ t.f = .fns) ∧ (t.f ≠ .own → s.d = t.d) := by
  obtain ⟨l, e, hp⟩ := outs_at h
  obtain ⟨t, et, q1, q2, q3⟩ := f.par i s e hp
  have et := ent_at et
  exact ⟨t, et, q1, e, by rw [q2, start_of hl et], q3⟩
theorem outs_priv (h : Priv (outs ps.length r) (vs.map some) b) : Priv r σ' b := by
  obtain ⟨i, s, h1, h2, h3⟩ := h
  obtain ⟨t, _, _, e, q, _⟩ := outs_sig hl f h1
  exact ⟨i, s, e, h2, by rw [q]; exact h3⟩
theorem Rel.outs {Z' : Addr → Prop} (rl : Rel C Z' r σ' H') (hr : Rel C.plain Z ps (vs.map some) H) (hlen : ps.length ≤ r.length) : Rel C.plain Z' (VS.outs ps.length r) (vs.map some) H' := by
  have av : ∀ b, Av Z' r σ' b → Av Z' (VS.outs ps.length r) (vs.map some) b := fun b p => ⟨p.1, fun w => p.2 (outs_priv hl f w)⟩
  have k : ∀ P, Keep P H' H' := fun _ _ _ e _ => e
  refine ⟨by simp [VS.outs, ← hl]; omega, rl.tab, rl.zd, fun i s h g => ?_, fun i s h g => ?_, fun i s h g => ?_, fun i s h g => ?_, fun i j s t a h1 h2 f1 f2 e1 e2 => ?_⟩
  · obtain ⟨t, _, _, e, q, _⟩ := outs_sig hl f h
    obtain ⟨x, e1, w⟩ := rl.val i s e g
    exact ⟨x, by rw [← q]; exact e1, Rp.keep (k _) (fun b _ => av b) _ _ w⟩
  · obtain ⟨t, _, _, e, q, _⟩ := outs_sig hl f h
    obtain ⟨x, e1, n, w⟩ := rl.own i s e g
    exact ⟨x, by rw [← q]; exact e1, n, Top.keep (k _) (fun b _ => av b) (fun _ e _ => e) w⟩
  · obtain ⟨t, _, _, e, q, _⟩ := outs_sig hl f h
    obtain ⟨x, e1, n, w⟩ := rl.lent i s e g
    exact ⟨x, by rw [← q]; exact e1, n, TopR.keep (k _) (fun b _ => av b) (fun _ e _ => e) w⟩
  · obtain ⟨t, et, _, _, _, _, _, q, _⟩ := outs_sig hl f h
    obtain ⟨_, _, _, _, w, _⟩ := hr.fns i t et (q.1 g)
    exact w.elim
  · obtain ⟨t1, _, _, e3, q1, _⟩ := outs_sig hl f h1
    obtain ⟨t2, _, _, e4, q2, _⟩ := outs_sig hl f h2
    exact rl.apart i j s t a e3 e4 f1 f2 (by rw [q1]; exact e1) (by rw [q2]; exact e2)
theorem SFr.outs (hp : ∀ (k : Nat) (s : Slot), ps[k]? = some (some s) → s.p = true) (hlen : ps.length ≤ r.length) : SFr ps (vs.map some) H (VS.outs ps.length r) (vs.map some) H' := by
  have ow : ∀ a, Own (ps ++ List.replicate n none) (L2.start N vs) a → Own ps (vs.map some) a := fun a ⟨i, s, h1, h2, h3⟩ => by
    have h := ent_at h1
    rw [start_of hl h] at h3
    exact ⟨i, s, h, h2, h3⟩
  refine ⟨⟨fun a o h nt w => f.fr.kp a o h nt fun z => w (ow a z), f.fr.dom⟩, by simp [VS.outs]; omega, fun a ⟨i, s, h1, h2, h3⟩ => ?_, fun a ⟨i, s, h1, h2, h3⟩ => ?_, fun a ⟨i, s, h1, _, h2, _⟩ => ?_, fun i s h p => ?_, fun i s h g => ?_⟩
  · obtain ⟨t, et, _, _, q, o1, l1, _⟩ := outs_sig hl f h1
    refine .inl ⟨i, t, et, ?_, h3⟩
    rcases h2 with h2 | h2
    · exact .inl (o1 h2)
    · exact (l1 h2).symm
  · obtain ⟨t, et, _, _, q, o1, l1, _⟩ := outs_sig hl f h1
    exact .inl ⟨i, t, et, o1 h2, h3⟩
  · rw [(outs_at h1).2.2] at h2; cases h2
  · obtain ⟨t, et, pt, _, q, o1, l1, n1, d1⟩ := outs_sig hl f h
    exact ⟨t, et, pt, rfl, o1, l1, n1, d1⟩
  · obtain ⟨t, et, pt, _, q, o1, l1, n1, d1⟩ := outs_sig hl f h
    obtain ⟨s2, e2, f2, d2, p2, q2⟩ := f.lnt i s (outs_at h).2.1 g
    have e2 := ent_at e2
    exact ⟨s2, e2, f2, d2, p2, rfl⟩
end
/-- a def, by its body -/
def runE (np ns : Nat) (ev : Rho → SR) (ps : Rho) : CR := if ps.length = np then match ev (ps ++ List.replicate (ns - np) none) with
  | .nx r => .ret .val .non (outs np r)
  | .rt o v r => .ret o v (outs np r)
  | .ex c r => .ex c (outs np r)
  | _ => .no else .no
theorem body_done {np : Nat} {ev : Rho → SR} {Q : VK} {E : XK} (hr : Rel C.plain Z ps (vs.map some) H) (hp : ∀ (k : Nat) (s : Slot), ps[k]? = some (some s) → s.p = true) (hN : N.length = ns) (hv : vs.length = np) (hnp : np ≤ ns)
    (h : match runE np ns ev ps with
      | .ret o d os => ∀ v H', RPost C.plain Z ps (vs.map some) H os (vs.map some) o d v H' → Q v H'
      | .ex c os => ∀ H', SPost C.plain Z ps (vs.map some) H os (vs.map some) H' → E (C.plain.cv c) none H'
      | .no => False) : tS C (fun cls d _ H' => E cls d H') ev { nx := fun _ H' => Q .non H', rt := Q } (L2.start N vs) H := by
  have hl : ps.length = vs.length := by rw [hr.len, List.length_map]
  have hnp' : ps.length = np := hl.trans hv
  unfold runE at h
  rw [if_pos hnp'] at h
  refine ⟨Z, ps ++ List.replicate (ns - np) none, hr.start (by omega), ?_⟩
  have len : ∀ {r : Rho} {σ' : L2.St} {H' : Hp}, SFr (ps ++ List.replicate (ns - np) none) (L2.start N vs) H r σ' H' → ps.length ≤ r.length := fun f => by rw [f.len]; simp
  subst hnp'
  cases e : ev (ps ++ List.replicate (ns - ps.length) none) with
  | nx r =>
    rw [e] at h
    exact fun σ' H' p => h .non H' ⟨p.sfr.outs hl hp (len p.sfr), Rel.outs hl p.sfr p.rel hr (len p.sfr), by simp only [Rp]⟩
  | rt o d r =>
    rw [e] at h
    intro v σ' H' p
    refine h v H' ⟨p.sfr.outs hl hp (len p.sfr), ?_⟩
    have q := p.res
    have k : ∀ P, Keep P H' H' := fun _ _ _ e _ => e
    have av : ∀ (Z' : Addr → Prop) b, Av Z' r σ' b → Av Z' (outs ps.length r) (vs.map some) b := fun Z' b p' => ⟨p'.1, fun w => p'.2 (outs_priv hl p.sfr w)⟩
    have nl : ∀ a, OwnL (ps ++ List.replicate (ns - ps.length) none) (L2.start N vs) a → False := fun a ⟨i, s, h1, _, h2, _⟩ => by
      rw [hp i s (ent_at h1)] at h2; cases h2
    cases o with
    | val => exact ⟨Rel.outs hl p.sfr q.1 hr (len p.sfr), Rp.keep (k _) (fun b _ => av _ b) _ _ q.2⟩
    | own =>
      obtain ⟨a, e1, na, w, t⟩ := q
      exact ⟨a, e1, .inr (na.elim (fun z => (nl a z).elim) id), Rel.outs hl p.sfr w hr (len p.sfr), Top.keep (k _) (fun b _ => av _ b) (fun _ e _ => e) t⟩
    | one =>
      obtain ⟨a, b, d1, e1, e2, na, nb, ne, ea, w, t⟩ := q
      exact ⟨a, b, d1, e1, e2, na, nb, ne, ea, Rel.outs hl p.sfr w hr (len p.sfr), Top.keep (k _) (fun b _ => av _ b) (fun _ e _ => e) t⟩
  | ex c r =>
    rw [e] at h
    exact fun σ' H' p => h H' ⟨p.sfr.outs hl hp (len p.sfr), Rel.outs hl p.sfr p.rel hr (len p.sfr)⟩
  | bk r => rw [e] at h; exact h.elim
  | ct r => rw [e] at h; exact h.elim
  | no => rw [e] at h; exact h.elim
end
section
variable {P : Program} {w : World} {K : PySem.W.Frag} {mg : PySem.Str → Option Value} {base : Heap} {x qual : PySem.Str} {params : Arguments} {body : List Stmt} {scope : Scope} {f : Addr} {fd : FuncData} {N pn : List PySem.Str}
/-- the context of a def's body -/
abbrev Frame (P : Program) (w : World) (K : PySem.W.Frag) (mg : PySem.Str → Option Value) (base : Heap) (N : List PySem.Str) (qual : PySem.Str) (scope : Scope) (f : Addr) (cdv : Value) (A : Around) (outer : List Env) (s : Shared) (H : Hp) (E : XK) : Cx := cxOf (L2.CX P w) P w K mg base N qual scope f cdv A outer s H E
theorem frame_takes {cdv : Value} {A : Around} {outer : List Env} {s : Shared} {H : Hp} {E : XK} : Takes (Frame P w K mg base N qual scope f cdv A outer s H E) (fun cls d _ H => E cls d H) := takes_of rfl rfl rfl rfl
theorem frame_passes {cdv : Value} {A : Around} {outer : List Env} {s : Shared} {H : Hp} {E : XK} : PassesOwn (model P w) (Frame P w K mg base N qual scope f cdv A outer s H E).A (Frame P w K mg base N qual scope f cdv A outer s H E).env (Frame P w K mg base N qual scope f cdv A outer s H E).xe :=
  passes_of (X := Frame P w K mg base N qual scope f cdv A outer s H E) rfl
theorem fn_ok {k np ns : Nat} {ev : Rho → SR} (cv : Nat → Value) (T : Tbs) (F : FunD K x qual params body scope [] [] f fd) (S : FnScope N pn scope) (hpn : pn.length = np) (hN : N.length = ns) (hnp : np ≤ ns)
    (hb : ∀ (cdv : Value) (A : Around) (outer : List Env) (s : Shared) (H : Hp) (E : XK), Room k (Frame P w K mg base N qual scope f cdv A outer s H E).A → ∃ C : RC, C.K = K ∧ C.cv = cv ∧ C.T = T ∧ SSs C (Frame P w K mg base N qual scope f cdv A outer s H E) body ev) :
    FnOk P w K mg base (L2.CX P w) (k + 1) f fd pn (spC (RC.plain ⟨K, cv, T, fun _ _ _ _ => False, fun _ _ _ _ _ h _ => h.elim⟩) (runE np ns ev) np) := by
  refine FunD.ok F S (fun vs H Q E q => q.1.trans hpn.symm) ?_
  rintro cdv A outer s H vs Q E hr ⟨hv, Z, ps, rl, hp, h⟩
  obtain ⟨C, rfl, rfl, rfl, hs⟩ := hb cdv A outer s H E hr
  exact ⟨_, hs _ frame_takes, body_done (C := C) rl hp hN hv hnp h⟩
end
end VS
end

section
set_option autoImplicit false
set_option linter.all false
/-! VUnp: several targets; raise. -/
namespace VS
open PySem PySem.Spec PyProof.Rows L2

def isStar : Expr → Bool
  | .Starred .. => true
  | _ => false
def nameAt (k : PySem.Str → Option NameKind) (line : Nat) : Expr → Option PySem.Str
  | .Name id pos => if k id == some .local && pos.line == line then some id else none
  | _ => none
def lineT (ts : List Expr) : Nat := (ts.head?.map fun (e : Expr) => e.pos.line).getD 0
/-- how a, b = x, y is stored: by the compiler's table of names -/
def swapT (k : PySem.Str → Option NameKind) (ts vs : List Expr) : Option (Option (List PySem.Str)) :=
  if !(ts.length == 2 || ts.length == 3) || vs.length != ts.length then some none
  else if vs.any isStar then some none
  else
    let names := ts.filterMap (nameAt k (lineT ts))
    if names.length != ts.length || names.eraseDups.length != names.length then some none
    else if vs.all (foldedForSure 8) then some none
    else if vs.all (constantsAlone 8) then none
    else some (some names)
theorem swap_T {env : Env} {ts vs : List Expr} {kt k2 : Nat} {pt p2 : Pos} {r : Option (List PySem.Str)} (hb : env.blockKind = .function) (h : swapT env.kindOf ts vs = some r) : swappedStores [.Tuple ts kt pt] (.Tuple vs k2 p2) env = pure r := by
  unfold swapT at h
  unfold swappedStores
  simp only [hb, bne_self_eq_false, Bool.or_false]
  by_cases c1 : (!(ts.length == 2 || ts.length == 3) || vs.length != ts.length) = true
  · rw [if_pos c1] at h ⊢
    cases h; rfl
  · rw [if_neg c1] at h ⊢
    show (if vs.any isStar = true then pure none else
      if ((ts.filterMap (nameAt env.kindOf (lineT ts))).length != ts.length || (ts.filterMap (nameAt env.kindOf (lineT ts))).eraseDups.length != (ts.filterMap (nameAt env.kindOf (lineT ts))).length) = true then pure none else
      if vs.all (foldedForSure 8) = true then pure none else
      if vs.all (constantsAlone 8) = true then (do
        unsupported "assign.tuple-of-constant-expressions:order-of-the-stores"
        pure (some (ts.filterMap (nameAt env.kindOf (lineT ts))))) else pure (some (ts.filterMap (nameAt env.kindOf (lineT ts))))) = pure r
    by_cases c2 : vs.any isStar = true
    · rw [if_pos c2] at h ⊢
      cases h; rfl
    · rw [if_neg c2] at h ⊢
      dsimp only at h
      generalize ts.filterMap (nameAt env.kindOf (lineT ts)) = names at h ⊢
      by_cases c3 : (names.length != ts.length || names.eraseDups.length != names.length) = true
      · rw [if_pos c3] at h ⊢
        cases h; rfl
      · rw [if_neg c3] at h ⊢
        by_cases c4 : vs.all (foldedForSure 8) = true
        · rw [if_pos c4] at h ⊢
          cases h; rfl
        · rw [if_neg c4] at h ⊢
          by_cases c5 : vs.all (constantsAlone 8) = true
          · rw [if_pos c5] at h; cases h
          · rw [if_neg c5] at h ⊢
            cases h; rfl
theorem sws_tup {ts : List Expr} {k : Nat} {p : Pos} {e : Expr} {line : Nat} {env : Env} : swapsWithSole [.Tuple ts k p] e line env = pure false := by
  cases e <;> rfl
def isTupE : Expr → Bool
  | .Tuple .. => true
  | _ => false
theorem swp_no {ts : List Expr} {k : Nat} {p : Pos} {e : Expr} {env : Env} (h : isTupE e = false) : swappedStores [.Tuple ts k p] e env = pure none := by
  cases e <;> first | rfl | simp [isTupE] at h
section
variable {C : RC} {X : Cx} {W : WX} {Z : Addr → Prop} {ρ ρ1 ρ2 ρ' : Rho} {σ : L2.St} {H H1 H2 H' : Hp} {i j l : Nat}
def unpEv (t : Tg) (m : Rho → R (Ow × VS.D)) (r : Rho) : SR := (m r).bindS fun v r1 => match bindT t v.2 r1 with
  | some r2 => .nx r2
  | none => .no
/-- a tuple is stored in several names -/
theorem ss_unp {tg e : Expr} {pos : Pos} {t : Tg} {m : Rho → R (Ow × VS.D)} (he : SE C X e m) (hg : PG X tg (gT C (namesT t) (bindT t))) (hs : swapsWithSole [tg] e pos.line X.env = pure false) (hw : swappedStores [tg] e X.env = pure none) (h1 : (assignEach [tg] X.env).map (·.2) = [assign tg X.env]) :
    SS C X (.Assign [tg] e pos) (unpEv t m) := by
  intro W tk
  refine PS.imp (ps_asg (he W tk) hg hs hw h1) ?_
  rintro D σ H ⟨Z, ρ, r, h⟩
  refine OutS.val (W := W) (f := fun v r1 => match bindT t v.2 r1 with
    | some r2 => .nx r2
    | none => .no) r h fun v ρ1 x H1 p h1 => ?_
  cases e : bindT t v.2 ρ1 with
  | none => simp only [e] at h1; exact h1.elim
  | some ρ2 =>
    simp only [e] at h1
    have w := p.val r
    exact ⟨Z, ρ1, v.2, ρ2, w.1, w.2, e, fun σ2 q _ => h1 σ2 H1 ((SPost.mk (p.x r).sfr w.1).trans q)⟩
/-- stored from a table -/
def unpL (t : List Tg) (m : Rho → R (List VS.D)) (r : Rho) : SR := (m r).bindS fun ds r1 => match bindTs t ds r1 with
  | some r2 => .nx r2
  | none => .no
theorem OutS.vals {Q : List V → Hp → Prop} {D : Ends} {ev : Rho → R (List VS.D)} {f : List VS.D → Rho → SR} (r : Rel C Z ρ σ H) (h : OutS C Z ρ σ H W ((ev ρ).bindS f) D)
    (k : ∀ ds ρ1 xs H1, VPost C Z ρ σ H ρ1 ds xs H1 → OutS C Z ρ σ H W (f ds ρ1) D → Q xs H1) : tL C W ev (VPost C) σ H Q := by
  refine ⟨Z, ρ, r, ?_⟩
  cases e : ev ρ with
  | no => rw [e] at h; exact h
  | ex c ρ1 =>
    rw [e] at h
    intro H1 p
    exact h σ H1 (.of p)
  | ok v ρ1 =>
    rw [e] at h
    intro x H1 p
    exact k v ρ1 x H1 p h
theorem bind2 {ds : List VS.D} {xs : List V} (r : Rel C Z ρ σ H) (q : RpL C.K (Av Z ρ σ) H ds xs) (e : bindTs [.nm i, .nm j] ds ρ = some ρ') : ∃ v w, xs = [v, w] ∧ SPost C Z ρ σ H ρ' ((σ.set i (some v)).set j (some w)) H := by
  cases ds with
  | nil => simp [bindTs] at e
  | cons d ds =>
    simp only [RpL] at q
    obtain ⟨v, vs, rfl, q1, q2⟩ := q
    simp only [bindTs, Option.bind_eq_some_iff] at e
    obtain ⟨ρ1, e1, e2⟩ := e
    obtain ⟨li, rfl⟩ := bindT_nm e1
    have p1 := r.putV li q1
    cases ds with
    | nil => simp [bindTs] at e2
    | cons d2 ds =>
      simp only [RpL] at q2
      obtain ⟨w, ws, rfl, q2, q3⟩ := q2
      simp only [bindTs, Option.bind_eq_some_iff] at e2
      obtain ⟨ρ2, e2, e3⟩ := e2
      obtain ⟨lj, rfl⟩ := bindT_nm e2
      have q2' : Rp C.K (Av Z (putS ρ i (newS .val d)) (σ.set i (some v))) H d2 w := Rp.keep (fun _ _ e _ => e) (fun b ⟨o, eo⟩ u => ⟨u.1, fun z => (p1.sfr.priv b z).elim u.2 fun z => by rw [eo] at z; cases z⟩) _ _ q2
      have p2 := p1.trans (p1.rel.putV lj q2')
      cases ds with
      | cons => simp [bindTs] at e3
      | nil =>
        simp only [bindTs, Option.some.injEq] at e3
        simp only [RpL] at q3
        subst e3 q3
        exact ⟨v, w, rfl, p2⟩
theorem ss_par2 {x y : PySem.Str} {a b : Expr} {px py pt pos : Pos} {kt k2 : Nat} {pt2 : Pos} {m : Rho → R (List VS.D)} (hc : X.calm = true) (hN : X.N.Nodup) (hi : X.N[i]? = some x) (hj : X.N[j]? = some y) (hij : i ≠ j)
    (hx : X.env.scope.names.lookup x = some .local) (hy : X.env.scope.names.lookup y = some .local) (ha : SL C X [a, b] m) (hw : swappedStores [.Tuple [.Name x px, .Name y py] kt pt] (.Tuple [a, b] k2 pt2) X.env = pure (some [x, y])) :
    SS C X (.Assign [.Tuple [.Name x px, .Name y py] kt pt] (.Tuple [a, b] k2 pt2) pos) (unpL [.nm i, .nm j] m) := by
  intro W tk
  refine PS.imp (ps_par hc hN hi hj hij hx hy (ha W tk) hw sws_tup) ?_
  rintro D σ H ⟨Z, ρ, r, h⟩
  refine OutS.vals (W := W) (f := fun ds r1 => match bindTs [.nm i, .nm j] ds r1 with
    | some r2 => .nx r2
    | none => .no) r h fun ds ρ1 xs H1 p h1 => ?_
  cases e : bindTs [.nm i, .nm j] ds ρ1 with
  | none => simp only [e] at h1; exact h1.elim
  | some ρ2 =>
    simp only [e] at h1
    obtain ⟨v, w, rfl, q⟩ := bind2 p.rel p.rp e
    exact ⟨v, w, rfl, h1 _ _ ((SPost.mk (XPost.sfr ⟨p.fr, p.mono, p.rel⟩) p.rel).trans q)⟩
theorem bind3 {ds : List VS.D} {xs : List V} (r : Rel C Z ρ σ H) (q : RpL C.K (Av Z ρ σ) H ds xs) (e : bindTs [.nm i, .nm j, .nm l] ds ρ = some ρ') : ∃ u v w, xs = [u, v, w] ∧ SPost C Z ρ σ H ρ' (((σ.set i (some u)).set j (some v)).set l (some w)) H := by
  cases ds with
  | nil => simp [bindTs] at e
  | cons d ds =>
    simp only [RpL] at q
    obtain ⟨v, vs, rfl, q1, q2⟩ := q
    rw [bindTs, Option.bind_eq_some_iff] at e
    obtain ⟨ρ1, e1, e2⟩ := e
    obtain ⟨li, rfl⟩ := bindT_nm e1
    have p1 := r.putV li q1
    have q2' : RpL C.K (Av Z (putS ρ i (newS .val d)) (σ.set i (some v))) H ds vs := RpL.keep (fun _ _ e _ => e) (fun b ⟨o, eo⟩ u => ⟨u.1, fun z => (p1.sfr.priv b z).elim u.2 fun z => by rw [eo] at z; cases z⟩) _ _ q2
    obtain ⟨w1, w2, rfl, p2⟩ := bind2 p1.rel q2' e2
    exact ⟨v, w1, w2, rfl, p1.trans p2⟩
theorem ss_par3 {x y z : PySem.Str} {a b c : Expr} {px py pz pt pos : Pos} {kt k2 : Nat} {pt2 : Pos} {m : Rho → R (List VS.D)} (hc : X.calm = true) (hN : X.N.Nodup) (hi : X.N[i]? = some x) (hj : X.N[j]? = some y) (hl : X.N[l]? = some z) (hij : i ≠ j) (hil : i ≠ l) (hjl : j ≠ l)
    (hx : X.env.scope.names.lookup x = some .local) (hy : X.env.scope.names.lookup y = some .local) (hz : X.env.scope.names.lookup z = some .local) (ha : SL C X [a, b, c] m) (hw : swappedStores [.Tuple [.Name x px, .Name y py, .Name z pz] kt pt] (.Tuple [a, b, c] k2 pt2) X.env = pure (some [x, y, z])) :
    SS C X (.Assign [.Tuple [.Name x px, .Name y py, .Name z pz] kt pt] (.Tuple [a, b, c] k2 pt2) pos) (unpL [.nm i, .nm j, .nm l] m) := by
  intro W tk
  refine PS.imp (ps_par3 hc hN hi hj hl hij hil hjl hx hy hz (ha W tk) hw sws_tup) ?_
  rintro D σ H ⟨Z, ρ, r, h⟩
  refine OutS.vals (W := W) (f := fun ds r1 => match bindTs [.nm i, .nm j, .nm l] ds r1 with
    | some r2 => .nx r2
    | none => .no) r h fun ds ρ1 xs H1 p h1 => ?_
  cases e : bindTs [.nm i, .nm j, .nm l] ds ρ1 with
  | none => simp only [e] at h1; exact h1.elim
  | some ρ2 =>
    simp only [e] at h1
    obtain ⟨u, v, w, rfl, q⟩ := bind3 p.rel p.rp e
    exact ⟨u, v, w, rfl, h1 _ _ ((SPost.mk (XPost.sfr ⟨p.fr, p.mono, p.rel⟩) p.rel).trans q)⟩
/-- raise -/
theorem ss_raise {e : Expr} {pos : Pos} {c : Nat} (hc : X.calm = true) (he : PMk X e (fun _ H Q => Q (C.cv c) none H)) : SS C X (.Raise (some e) none pos) (fun r => .ex c r) := by
  intro W tk
  refine PS.imp (ps_raise hc tk he) ?_
  rintro D σ H ⟨Z, ρ, r, h⟩
  exact h σ H (.start r)
end
end VS
end

section
set_option autoImplicit false
set_option linter.all false
/-! VLc: comprehensions' own slots. -/
namespace VS
open PySem PySem.Spec PyProof.Rows L2

section
variable {C : RC} {X : Cx} {W : WX} {Z : Addr → Prop} {ρ ρ0 ρ1 ρ2 ρ' ρe : Rho} {σ : L2.St} {H H1 H2 H' : Hp} {ns ws : List Nat} {a b E : Addr}
theorem wipe_ne {j : Nat} : ∀ {ns : List Nat}, j ∉ ns → (wipe σ ns)[j]? = σ[j]?
  | [], _ => rfl
  | v :: vs, h => by
    simp only [List.mem_cons, not_or] at h
    unfold wipe
    rw [List.getElem?_set_ne (Ne.symm h.1), wipe_ne h.2]
theorem wipeA_ne : ∀ {ns : List Nat} {ρ : Rho} {j : Nat}, j ∉ ns → (wipeAll ρ ns)[j]? = ρ[j]?
  | [], _, _, _ => rfl
  | v :: vs, ρ, j, h => by
    simp only [List.mem_cons, not_or] at h
    rw [wipeAll, wipeA_ne h.2, List.getElem?_set_ne (Ne.symm h.1)]
theorem wipeA_at : ∀ {ns : List Nat} {ρ : Rho} {j : Nat} {s : Slot}, (wipeAll ρ ns)[j]? = some (some s) → j ∉ ns ∧ ρ[j]? = some (some s)
  | [], _, _, _, h => ⟨by simp, h⟩
  | v :: vs, ρ, j, s, h => by
    rw [wipeAll] at h
    obtain ⟨h1, h2⟩ := wipeA_at h
    obtain ⟨h3, h4⟩ := clr_at h2
    exact ⟨by simp [h1, h3], h4⟩
theorem wipeA_len : ∀ {ns : List Nat} {ρ : Rho}, (wipeAll ρ ns).length = ρ.length
  | [], _ => rfl
  | v :: vs, ρ => by rw [wipeAll, wipeA_len]; simp
theorem wipe_priv (h : Priv (wipeAll ρ ns) (wipe σ ns) a) : Priv ρ σ a := by
  obtain ⟨j, s, h1, h2, h3⟩ := h
  obtain ⟨n, e⟩ := wipeA_at h1
  rw [wipe_ne n] at h3
  exact ⟨j, s, e, h2, h3⟩
theorem wipe_own (h : Own (wipeAll ρ ns) (wipe σ ns) a) : Own ρ σ a := by
  obtain ⟨j, s, h1, h2, h3⟩ := h
  obtain ⟨n, e⟩ := wipeA_at h1
  rw [wipe_ne n] at h3
  exact ⟨j, s, e, h2, h3⟩
theorem Rel.wipe (r : Rel C Z ρ σ H) : Rel C Z (wipeAll ρ ns) (L2.wipe σ ns) H := by
  have k : ∀ P, Keep P H H := fun _ _ _ e _ => e
  have av : ∀ b, Av Z ρ σ b → Av Z (wipeAll ρ ns) (L2.wipe σ ns) b := fun b p => ⟨p.1, fun w => p.2 (wipe_priv w)⟩
  refine ⟨by rw [wipeA_len, wipe_length]; exact r.len, r.tab, r.zd, fun j s h f => ?_, fun j s h f => ?_, fun j s h f => ?_, fun j s h f => ?_, fun j l s t a h1 h2 f1 f2 e1 e2 => ?_⟩
  · obtain ⟨n, e⟩ := wipeA_at h
    obtain ⟨x, e1, q⟩ := r.val j s e f
    exact ⟨x, by rw [wipe_ne n]; exact e1, Rp.keep (k _) (fun b _ => av b) _ _ q⟩
  · obtain ⟨n, e⟩ := wipeA_at h
    obtain ⟨x, e1, z, q⟩ := r.own j s e f
    exact ⟨x, by rw [wipe_ne n]; exact e1, z, Top.keep (k _) (fun b _ => av b) (fun _ e _ => e) q⟩
  · obtain ⟨n, e⟩ := wipeA_at h
    obtain ⟨x, e1, z, q⟩ := r.lent j s e f
    exact ⟨x, by rw [wipe_ne n]; exact e1, z, TopR.keep (k _) (fun b _ => av b) (fun _ e _ => e) q⟩
  · obtain ⟨n, e⟩ := wipeA_at h
    obtain ⟨c, x, e1, e2, q, z⟩ := r.fns j s e f
    exact ⟨c, x, e1, by rw [wipe_ne n]; exact e2, q, fun b eb => ⟨(z b eb).1, (z b eb).2.1, fun w => (z b eb).2.2 (wipe_priv w)⟩⟩
  · obtain ⟨n1, g1⟩ := wipeA_at h1
    obtain ⟨n2, g2⟩ := wipeA_at h2
    rw [wipe_ne n1] at e1
    rw [wipe_ne n2] at e2
    exact r.apart j l s t a g1 g2 f1 f2 e1 e2
theorem SFr.wipe : SFr ρ σ H (wipeAll ρ ns) (L2.wipe σ ns) H := by
  refine ⟨.refl _ _ _, wipeA_len, fun a h => .inl (wipe_priv h), fun a h => .inl (wipe_own h), fun a ⟨j, s, h1, h2, h4, h3⟩ => ?_, fun j s h p => ?_, fun j s h f => ?_⟩
  · obtain ⟨n, e⟩ := wipeA_at h1
    rw [wipe_ne n] at h3
    exact .inl ⟨j, s, e, h2, h4, h3⟩
  · obtain ⟨n, e⟩ := wipeA_at h
    exact ⟨s, e, p, wipe_ne n, id, .inl, Iff.rfl, fun _ => rfl⟩
  · obtain ⟨n, e⟩ := wipeA_at h
    exact ⟨s, e, f, rfl, rfl, wipe_ne n⟩
/-- the list that is shut out is changed -/
theorem Rel.setOut {xs : List V} {u : HO} (r : Rel C Z ρ σ H) (hz : Z E) (he : H E = some (.lst xs)) : Rel C Z ρ σ (upd H E u) := by
  have ne : ∀ b o, H b = some o → b ≠ E → upd H E u b = some o := fun b o e n => by rw [upd_ne n]; exact e
  have dom : ∀ b o, H b = some o → ∃ o', upd H E u b = some o' := fun b o e => by
    by_cases z : b = E
    · exact ⟨u, by rw [z]; exact upd_same⟩
    · exact ⟨o, ne b o e z⟩
  have kk : Keep (Av Z ρ σ) H (upd H E u) := fun b o e q => by
    refine ne b o e fun z => ?_
    subst z
    rcases q with ⟨q, _⟩ | ⟨_, q⟩ | ⟨_, _, q⟩
    · exact q.1 hz
    · rw [he] at e; cases e; cases q
    · rw [he] at e; cases e; cases q
  have nz : ∀ a, ¬ Z a → a ≠ E := fun a n z => n (z ▸ hz)
  have tb : Tabs C.T (upd H E u) := tabs_keep r.tab fun b o e q => ne b o e fun z => by
    subst z
    rw [he] at e; cases e
    rcases q with ⟨_, q⟩ | ⟨_, q⟩ <;> cases q
  refine ⟨r.len, tb, fun b z => let ⟨o, e⟩ := r.zd b z; dom b o e, fun j s h f => ?_, fun j s h f => ?_, fun j s h f => ?_, fun j s h f => ?_, r.apart⟩
  · obtain ⟨x, e1, q⟩ := r.val j s h f
    exact ⟨x, e1, Rp.keep kk (fun _ _ p => p) _ _ q⟩
  · obtain ⟨x, e1, n, q⟩ := r.own j s h f
    exact ⟨x, e1, n, Top.keep kk (fun _ _ p => p) (fun o e _ => ne x o e (nz x n)) q⟩
  · obtain ⟨x, e1, n, q⟩ := r.lent j s h f
    exact ⟨x, e1, n, TopR.keep kk (fun _ _ p => p) (fun o e _ => ne x o e (nz x n)) q⟩
  · obtain ⟨c, x, e1, e2, q, z⟩ := r.fns j s h f
    refine ⟨c, x, e1, e2, C.st j c x H _ q fun b o e _ k => ne b o e fun w => ?_, fun b eb => ⟨let ⟨o, w⟩ := (z b eb).1; dom b o w, (z b eb).2⟩⟩
    subst w
    rcases k with ⟨φ, k⟩ | k
    · rw [he] at e; cases e; cases k
    · exact (z b k).2.1 hz
theorem save_val : ∀ {ns : List Nat} {sv : List (Nat × Option Slot)}, saveAll ρ ns = some sv → ∀ j ∈ ns, ρ[j]? = some none ∨ ∃ s, ρ[j]? = some (some s) ∧ s.f = .val
  | [], _, _, j, m => by cases m
  | i :: is, sv, h, j, m => by
    simp only [saveAll] at h
    cases e : ρ[i]? with
    | none => simp only [e] at h; cases h
    | some o =>
      cases o with
      | none =>
        simp only [e, Option.map_eq_some_iff] at h
        obtain ⟨sv', h, _⟩ := h
        rcases List.mem_cons.1 m with rfl | m
        · exact .inl e
        · exact save_val h j m
      | some s =>
        simp only [e] at h
        split at h
        · rename_i f
          simp only [Option.map_eq_some_iff] at h
          obtain ⟨sv', h, _⟩ := h
          rcases List.mem_cons.1 m with rfl | m
          · exact .inr ⟨s, e, f⟩
          · exact save_val h j m
        · cases h
theorem back_at : ∀ {ns : List Nat} {sv : List (Nat × Option Slot)} {r : Rho}, saveAll ρ ns = some sv → r.length = ρ.length → (backAll r sv).length = r.length ∧ ∀ j : Nat, (j ∈ ns → (backAll r sv)[j]? = ρ[j]?) ∧ (j ∉ ns → (backAll r sv)[j]? = r[j]?)
  | [], sv, r, h, hl => by
    simp only [saveAll, Option.some.injEq] at h
    subst h
    exact ⟨rfl, fun j => ⟨fun m => (by cases m), fun _ => rfl⟩⟩
  | i :: is, sv, r, h, hl => by
    have key : ∀ (o : Option Slot) (sv' : List (Nat × Option Slot)), ρ[i]? = some o → saveAll ρ is = some sv' → (backAll r ((i, o) :: sv')).length = r.length ∧ ∀ j : Nat, (j ∈ i :: is → (backAll r ((i, o) :: sv'))[j]? = ρ[j]?) ∧ (j ∉ i :: is → (backAll r ((i, o) :: sv'))[j]? = r[j]?) := fun o sv' eo h' => by
      have li : i < r.length := by rw [hl]; exact (List.getElem?_eq_some_iff.1 eo).1
      obtain ⟨q1, q2⟩ := back_at (r := r.set i o) h' (by simpa using hl)
      rw [backAll]
      refine ⟨by rw [q1]; simp, fun j => ⟨fun m => ?_, fun n => ?_⟩⟩
      · by_cases mj : j ∈ is
        · exact (q2 j).1 mj
        · rcases List.mem_cons.1 m with rfl | m
          · rw [(q2 j).2 mj, List.getElem?_set_self li, eo]
          · exact absurd m mj
      · simp only [List.mem_cons, not_or] at n
        rw [(q2 j).2 n.2, List.getElem?_set_ne (Ne.symm n.1)]
    simp only [saveAll] at h
    cases e : ρ[i]? with
    | none => simp only [e] at h; cases h
    | some o =>
      cases o with
      | none =>
        simp only [e, Option.map_eq_some_iff] at h
        obtain ⟨sv', h, rfl⟩ := h
        exact key _ _ e h
      | some s =>
        simp only [e] at h
        split at h
        · simp only [Option.map_eq_some_iff] at h
          obtain ⟨sv', h, rfl⟩ := h
          exact key _ _ e h
        · cases h
/-- a turn's beginning: ρ at the entry, lent; E the list that grows -/
structure LS (C : RC) (Z' : Addr → Prop) (ρ : Rho) (σ : L2.St) (H : Hp) (ns : List Nat) (ρ' : Rho) (H' : Hp) : Prop where
  sfr : SFr ρ σ H ρ' (wipe σ ns) H'
  rel : Rel C Z' ρ' (wipe σ ns) H'
  bk : ∀ (j : Nat) (s' : Slot), ρ'[j]? = some (some s') → j ∉ ns ∧ ∃ s, ρ[j]? = some (some s) ∧ s'.p = s.p ∧ (s'.f = s.f ∨ (s'.f = .val ∧ s.f ≠ .fns)) ∧ (s.f ≠ .own → s'.d = s.d)
  fw : ∀ (j : Nat) (s : Slot), j ∉ ns → ρ[j]? = some (some s) → ∃ s', ρ'[j]? = some (some s')
/-- the own slots are given back -/
theorem LS.back {sv : List (Nat × Option Slot)} {Z' : Addr → Prop} (l : LS C Z' ρ σ H ns ρe H') (r : Rel C Z ρ σ H) (hz : ∀ b, Z' b → Z b ∨ H b = none) (hv : saveAll ρ0 ns = some sv) (h0 : ∀ j ∈ ns, ρ0[j]? = ρ[j]?) (hl : ρ0.length = ρ.length) :
    SFr ρ σ H (backAll ρe sv) σ H' ∧ Rel C Z' (backAll ρe sv) σ H' ∧ Mono ρ (backAll ρe sv) ∧ ∀ b, Priv (backAll ρe sv) σ b → Priv ρe (wipe σ ns) b := by
  have ll : ρe.length = ρ0.length := by rw [l.sfr.len, hl]
  obtain ⟨q1, q2⟩ := back_at hv ll
  have svv := save_val hv
  -- a slot's state
  have cas : ∀ (j : Nat) (s : Slot), (backAll ρe sv)[j]? = some (some s) → (j ∉ ns ∧ ρe[j]? = some (some s)) ∨ (j ∈ ns ∧ ρ[j]? = some (some s) ∧ s.f = .val) := fun j s h => by
    by_cases m : j ∈ ns
    · rw [(q2 j).1 m] at h
      rcases svv j m with e | ⟨t, e, f⟩
      · rw [h] at e; cases e
      · rw [h] at e; cases e
        exact .inr ⟨m, by rw [← h0 j m]; exact h, f⟩
    · rw [(q2 j).2 m] at h
      exact .inl ⟨m, h⟩
  have pr : ∀ b, Priv (backAll ρe sv) σ b → Priv ρe (wipe σ ns) b := fun b ⟨j, s, h1, h2, h3⟩ => by
    rcases cas j s h1 with ⟨n, h⟩ | ⟨_, _, f⟩
    · exact ⟨j, s, h, h2, by rw [wipe_ne n]; exact h3⟩
    · rw [f] at h2; rcases h2 with h2 | h2 <;> cases h2
  have av : ∀ b, Av Z' ρe (wipe σ ns) b → Av Z' (backAll ρe sv) σ b := fun b p => ⟨p.1, fun w => p.2 (pr b w)⟩
  have k : ∀ P, Keep P H' H' := fun _ _ _ e _ => e
  have kk : Keep (Av Z ρ σ) H H' := r.keep l.sfr.fr
  have m : Mono ρ (backAll ρe sv) := by
    refine ⟨by rw [q1, ll, hl], fun j s h => ?_, fun j s h => ?_⟩
    · rcases cas j s h with ⟨n, h⟩ | ⟨_, e, f⟩
      · exact (l.bk j s h).2
      · exact ⟨s, e, rfl, .inl rfl, fun _ => rfl⟩
    · by_cases m : j ∈ ns
      · exact ⟨s, by rw [(q2 j).1 m, h0 j m]; exact h⟩
      · obtain ⟨s', e⟩ := l.fw j s m h
        exact ⟨s', by rw [(q2 j).2 m]; exact e⟩
  refine ⟨.exp l.sfr.fr m, ⟨by rw [q1, ll, hl]; exact r.len, l.rel.tab, l.rel.zd, fun j s h f => ?_, fun j s h f => ?_, fun j s h f => ?_, fun j s h f => ?_, fun j i s t a h1 h2 f1 f2 e1 e2 => ?_⟩, m, pr⟩
  · rcases cas j s h with ⟨n, h⟩ | ⟨_, e, f⟩
    · obtain ⟨x, e1, q⟩ := l.rel.val j s h f
      rw [wipe_ne n] at e1
      exact ⟨x, e1, Rp.keep (k _) (fun b _ => av b) _ _ q⟩
    · obtain ⟨x, e1, q⟩ := r.val j s e f
      refine ⟨x, e1, Rp.keep kk (fun b ⟨o, eo⟩ p => ⟨fun z => (hz b z).elim p.1 fun z => ?_, fun w => ?_⟩) _ _ q⟩
      · rw [eo] at z; cases z
      · rcases l.sfr.priv b (pr b w) with w | w
        · exact p.2 w
        · rw [eo] at w; cases w
  · rcases cas j s h with ⟨n, h⟩ | ⟨_, e, f2⟩
    · obtain ⟨x, e1, z, q⟩ := l.rel.own j s h f
      rw [wipe_ne n] at e1
      exact ⟨x, e1, z, Top.keep (k _) (fun b _ => av b) (fun _ e _ => e) q⟩
    · rw [f] at f2; cases f2
  · rcases cas j s h with ⟨n, h⟩ | ⟨_, e, f2⟩
    · obtain ⟨x, e1, z, q⟩ := l.rel.lent j s h f
      rw [wipe_ne n] at e1
      exact ⟨x, e1, z, TopR.keep (k _) (fun b _ => av b) (fun _ e _ => e) q⟩
    · rw [f] at f2; cases f2
  · rcases cas j s h with ⟨n, h⟩ | ⟨_, e, f2⟩
    · obtain ⟨c, x, e1, e2, q, z⟩ := l.rel.fns j s h f
      rw [wipe_ne n] at e2
      exact ⟨c, x, e1, e2, q, fun b eb => ⟨(z b eb).1, (z b eb).2.1, fun w => (z b eb).2.2 (pr b w)⟩⟩
    · rw [f] at f2; cases f2
  · rcases cas j s h1 with ⟨n1, g1⟩ | ⟨_, _, f⟩
    · rcases cas i t h2 with ⟨n2, g2⟩ | ⟨_, _, f⟩
      · exact l.rel.apart j i s t a g1 g2 f1 f2 (by rw [wipe_ne n1]; exact e1) (by rw [wipe_ne n2]; exact e2)
      · rw [f] at f2; rcases f2 with f2 | f2 <;> cases f2
    · rw [f] at f1; rcases f1 with f1 | f1 <;> cases f1
end
end VS
end

section
set_option autoImplicit false
set_option linter.all false
/-! VLc2: list comprehensions. -/
namespace VS
open PySem PySem.Spec PyProof.Rows L2

section
variable {C : RC} {X : Cx} {W : WX} {Z : Addr → Prop} {ρ ρ0 ρ1 ρ2 ρ4 ρ6 ρ' ρe : Rho} {σ σ2 : L2.St} {H H1 H2 H4 H' : Hp} {ns ws : List Nat} {a b E : Addr}
theorem keepOut {xs : List V} {u : HO} (hz : Z E) (he : H E = some (.lst xs)) : Keep (Av Z ρ σ) H (upd H E u) := fun b o e q => by
  have n : b ≠ E := fun z => by
    subst z
    rcases q with ⟨q, _⟩ | ⟨_, q⟩ | ⟨_, _, q⟩
    · exact q.1 hz
    · rw [he] at e; cases e; cases q
    · rw [he] at e; cases e; cases q
  rw [upd_ne n]; exact e
/-- a new thing is shut out -/
theorem Rel.addZ {u : HO} (r : Rel C Z ρ σ H) (he : H E = none) : Rel C (zAnd Z E) ρ σ (upd H E u) := by
  have g : Grow H (upd H E u) := Grow.new he
  have r2 := r.grow g
  have hav : ∀ b, (∃ o, H b = some o) → Av Z ρ σ b → Av (zAnd Z E) ρ σ b := fun b ⟨o, e⟩ p => ⟨fun z => z.elim p.1 fun z => (by rw [z, he] at e; cases e), p.2⟩
  have kk : Keep (Av Z ρ σ) H (upd H E u) := r.keep (.grow g)
  have nn : ∀ b, (∃ o, H b = some o) → ¬ Z b → ¬ zAnd Z E b := fun b ⟨o, e⟩ n z => z.elim n fun z => by rw [z, he] at e; cases e
  refine ⟨r.len, r2.tab, fun b z => z.elim (r2.zd b) fun z => ⟨u, by rw [z]; exact upd_same⟩, fun i s h f => ?_, fun i s h f => ?_, fun i s h f => ?_, fun i s h f => ?_, r.apart⟩
  · obtain ⟨x, e1, q⟩ := r.val i s h f
    exact ⟨x, e1, Rp.keep kk hav _ _ q⟩
  · obtain ⟨b, e1, n1, q⟩ := r.own i s h f
    exact ⟨b, e1, nn b (TopR.some q.r) n1, Top.keep kk hav (fun o e _ => g b o e) q⟩
  · obtain ⟨b, e1, n1, q⟩ := r.lent i s h f
    exact ⟨b, e1, nn b (TopR.some q) n1, TopR.keep kk hav (fun o e _ => g b o e) q⟩
  · obtain ⟨n, x, e1, e2, q, w⟩ := r2.fns i s h f
    obtain ⟨_, _, _, e3, _, w1⟩ := r.fns i s h f
    rw [e2] at e3; cases e3
    exact ⟨n, x, e1, e2, q, fun b e => ⟨(w b e).1, nn b (w1 b e).1 (w1 b e).2.1, (w b e).2.2⟩⟩
theorem SFr.late {u : HO} {σ' : L2.St} (f : SFr ρ σ H ρ' σ' H') (he : H E = none) : SFr ρ σ H ρ' σ' (upd H' E u) := by
  refine ⟨⟨fun a o h n w => ?_, fun a o h => ?_⟩, f.len, f.priv, f.own, f.ownl, f.par, f.lnt⟩
  · rw [upd_ne (ne_of_none h he)]; exact f.fr.kp a o h n w
  · obtain ⟨o', e⟩ := f.fr.dom a o h
    exact ⟨o', by rw [upd_ne (ne_of_none h he)]; exact e⟩
theorem wipe_mem {j : Nat} : ∀ {ns : List Nat}, j ∈ ns → (wipe σ ns)[j]? = if j < σ.length then some none else none
  | [], h => by cases h
  | v :: vs, h => by
    unfold wipe
    by_cases e : v = j
    · subst e
      rw [List.getElem?_set, if_pos rfl, wipe_length]
    · rw [List.getElem?_set_ne e]
      exact wipe_mem ((List.mem_cons.1 h).resolve_left (Ne.symm e))
theorem wipe_eq (h : ∀ j : Nat, j ∉ ns → σ2[j]? = (wipe σ ns)[j]?) (hl : σ2.length = σ.length) : wipe σ2 ns = wipe σ ns := by
  refine List.ext_getElem? fun j => ?_
  by_cases m : j ∈ ns
  · rw [wipe_mem m, wipe_mem m, hl]
  · rw [wipe_ne m, h j m]
theorem lend_same {j : Nat} : ∀ {ws : List Nat} {ρ : Rho}, j ∉ ws → (lendAll ρ ws)[j]? = ρ[j]?
  | [], _, _ => rfl
  | i :: is, ρ, h => by
    simp only [List.mem_cons, not_or] at h
    rw [lendAll, lend_same h.2]
    split
    · unfold putS; rw [List.getElem?_set_ne (Ne.symm h.1)]
    · rfl
/-- one turn on -/
theorem LS.turn {Z' : Addr → Prop} (l : LS C Z' ρ σ H ns ρ2 H') (g : Grow H' H2) (p4 : SPost C Z' ρ2 (wipe σ ns) H2 ρ4 σ2 H2) (hne : ∀ j : Nat, j ∉ ns → σ2[j]? = (wipe σ ns)[j]? ∧ ρ4[j]? = ρ2[j]?) {Z2 : Addr → Prop} (x : Fr ρ4 σ2 H2 H4 ∧ Mono ρ4 ρ6 ∧ Rel C Z2 ρ6 σ2 H4) :
    wipe σ2 ns = wipe σ ns ∧ LS C Z2 ρ σ H ns (wipeAll ρ6 ns) H4 := by
  have hl : σ2.length = σ.length := by rw [← p4.rel.len, p4.sfr.len, l.rel.len, wipe_length]
  have we := wipe_eq (fun j hj => (hne j hj).1) hl
  refine ⟨we, ?_, ?_, fun j s h => ?_, fun j s n h => ?_⟩
  · have := ((l.sfr.trans (.exp (.grow g) (.refl _))).trans p4.sfr).trans ((SFr.exp x.1 x.2.1).trans (SFr.wipe (ns := ns)))
    rw [we] at this; exact this
  · have := x.2.2.wipe (ns := ns)
    rw [we] at this; exact this
  · obtain ⟨n, e6⟩ := wipeA_at h
    obtain ⟨s4, e4, q4, f4, d4⟩ := x.2.1.bk j s e6
    rw [(hne j n).2] at e4
    obtain ⟨_, s0, e0, q0, f0, d0⟩ := l.bk j s4 e4
    refine ⟨n, s0, e0, q4.trans q0, ?_, fun w => ?_⟩
    · rcases f4 with f4 | ⟨f4, n4⟩
      · rw [f4]; exact f0
      · refine .inr ⟨f4, ?_⟩
        rcases f0 with f0 | ⟨_, f0⟩
        · rw [← f0]; exact n4
        · exact f0
    · refine (d4 ?_).trans (d0 w)
      rcases f0 with f0 | ⟨f0, _⟩
      · rw [f0]; exact w
      · rw [f0]; decide
  · obtain ⟨s', e'⟩ := l.fw j s n h
    rw [← (hne j n).2] at e'
    obtain ⟨s6, e6⟩ := x.2.1.fw j s' e'
    exact ⟨s6, by rw [wipeA_ne n]; exact e6⟩
/-- what stands in the new list stays -/
theorem LS.keepL {ds : List VS.D} {vs : List V} (l : LS C (zAnd Z E) ρ σ H ns ρ2 H') (g : Grow H' H2) (p4 : SPost C (zAnd Z E) ρ2 (wipe σ ns) H2 ρ4 σ2 H2) (x : XPost C (zAnd Z E) ρ4 σ2 H2 ρ6 H4) (we : wipe σ2 ns = wipe σ ns)
    (q : RpL C.K (Av (zAnd Z E) ρ2 (wipe σ ns)) H' ds vs) : RpL C.K (Av (zAnd Z E) (wipeAll ρ6 ns) (wipe σ ns)) H4 ds vs := by
  have f : SFr ρ2 (wipe σ ns) H' ρ6 σ2 H4 := ((SFr.exp (.grow g) (.refl _)).trans p4.sfr).trans x.sfr
  refine RpL.keep (l.rel.keep f.fr) (fun b ⟨o, eo⟩ p => ⟨p.1, fun w => ?_⟩) _ _ q
  rw [← we] at w
  rcases f.priv b (wipe_priv w) with w | w
  · exact p.2 w
  · rw [eo] at w; cases w
theorem LS.upd {Z' : Addr → Prop} {xs : List V} {u : HO} (l : LS C Z' ρ σ H ns ρ2 H') (hz : Z' E) (he : H E = none) (e : H' E = some (.lst xs)) : LS C Z' ρ σ H ns ρ2 (L2.upd H' E u) := ⟨l.sfr.late he, l.rel.setOut hz e, l.bk, l.fw⟩
theorem XPost.three {ρ' : Rho} (x : XPost C Z ρ σ H ρ' H') : Fr ρ σ H H' ∧ Mono ρ ρ' ∧ Rel C Z ρ' σ H' := ⟨x.fr, x.mono, x.rel⟩
def lcEv (t : Tg) (msc : Rho → R (List VS.D × List Nat)) (mc : Rho → R Bool) (me : Rho → R (Ow × VS.D)) (r : Rho) : R (Ow × VS.D) := (msc r).bind fun its r1 => if few its.1.length then (inScope t its.2 r1 fun r2 => loopC (namesT t) (turnC t mc (fun r3 => (me r3).bind fun v r4 => .ok v.2 r4)) its.1 r2).bind fun ds r' => .ok (.own, .lst ds) r' else .no
theorem imp_lc {t : Tg} {msc : Rho → R (List VS.D × List Nat)} {mc : Rho → R Bool} {me : Rho → R (Ow × VS.D)} {Q : VK} (h : tX C W (lcEv t msc mc me) (GE C) σ H Q) :
    tLc (tSc C W msc) (gT C (namesT t) (bindT t)) (tT C (fun _ _ _ _ => False) mc) (tX C (fun _ _ _ _ => False) me (GE C)) (namesT t) σ H Q := by
  obtain ⟨Z, ρ, r0, h⟩ := h
  refine ⟨Z, ρ, r0, ?_⟩
  unfold lcEv at h
  cases e0 : msc ρ with
  | no => simp only [e0, R.bind] at h
  | ex c ρ1 => simp only [e0, R.bind] at h; exact h
  | ok its ρ1 =>
    obtain ⟨ds, ws⟩ := its
    intro J H1 p hw gi E hE
    simp only [e0, R.bind] at h
    generalize hns : namesT t = ns at h ⊢
    cases hf : few ds.length with
    | false => simp only [hf, Bool.false_eq_true, if_false] at h
    | true =>
      simp only [hf, if_true] at h
      unfold inScope at h
      rw [hns] at h
      cases hv : saveAll ρ1 ns with
      | none => simp only [hv] at h
      | some sv =>
        simp only [hv] at h
        let step := turnC t mc (fun r3 => (me r3).bind fun v r4 => R.ok v.2 r4)
        cases hm : loopC ns step ds (wipeAll (lendAll ρ1 ws) ns) with
        | no => simp only [step] at hm; simp only [R.bind] at hm; simp only [hm] at h
        | ex c r => simp only [step] at hm; simp only [R.bind] at hm; simp only [hm] at h
        | ok rs ρe =>
          have hm' := hm
          simp only [step] at hm'
          simp only [R.bind] at hm'
          simp only [hm'] at h
          -- h: what follows from a good end
          have ds_few : ds.length ≤ sizeLine := sizeLine_few hf
          have rl := p.rel.lendAll hw
          refine ⟨fun i m H' => i ≤ ds.length ∧ m = ds.length - i ∧ ∃ ρi acc vs rest, LS C (zAnd Z E) (lendAll ρ1 ws) σ H1 ns ρi H' ∧ H' E = some (.lst vs) ∧ RpL C.K (Av (zAnd Z E) ρi (wipe σ ns)) H' acc vs ∧ acc.length ≤ i ∧ loopC ns step (ds.drop i) ρi = .ok rest ρe ∧ acc ++ rest = rs,
            ⟨_, Nat.zero_le _, rfl, _, [], [], rs, ⟨(SFr.wipe.trans (.exp (.grow (Grow.new hE)) (.refl _))), rl.wipe.addZ hE, fun j s q => ?_, fun j s n q => ⟨s, by rw [wipeA_ne n]; exact q⟩⟩, upd_same, RpL.nil, Nat.le_refl _, hm, rfl⟩, ?_⟩
          · obtain ⟨n, e⟩ := wipeA_at q
            exact ⟨n, s, e, rfl, .inl rfl, fun _ => rfl⟩
          rintro i m H' ⟨hi, rfl, ρi, acc, vs, rest, l, ev, q, ha, hr, hs⟩
          obtain ⟨gg, gs⟩ := gi (zAnd Z E) ρi (wipe σ ns) H' (.and _ hE) l.sfr l.rel
          by_cases hlt : i < ds.length
          · refine .inr ?_
            have ed : ds[i]? = some ds[i] := List.getElem?_eq_getElem hlt
            obtain ⟨go, gy⟩ := gg i _ ed
            rw [List.drop_eq_getElem_cons hlt] at hr
            refine ⟨go, fun H2 => i + 1 ≤ ds.length ∧ ∃ ρi acc vs rest, LS C (zAnd Z E) (lendAll ρ1 ws) σ H1 ns ρi H2 ∧ H2 E = some (.lst vs) ∧ RpL C.K (Av (zAnd Z E) ρi (wipe σ ns)) H2 acc vs ∧ acc.length ≤ i + 1 ∧ loopC ns step (ds.drop (i + 1)) ρi = .ok rest ρe ∧ acc ++ rest = rs,
              fun H2 w => ⟨ds.length - (i + 1), by omega, w.1, rfl, w.2⟩, fun x H2 y => ?_⟩
            obtain ⟨gr, rp⟩ := gy x H2 y
            simp only [loopC] at hr
            cases eb : bindT t ds[i] ρi with
            | none => simp only [step, turnC, eb] at hr; cases hr
            | some ρ4 =>
              refine ⟨zAnd Z E, ρi, ds[i], ρ4, l.rel.grow gr, rp_or l.rel gr rp, eb, fun σ2 p4 hne => ?_⟩
              have we := (l.turn gr p4 hne (XPost.start p4.rel).three).1
              refine ⟨we, zAnd Z E, ρ4, p4.rel, ?_⟩
              have hl2 : ds.length ≤ sizeLine := ds_few
              cases ec : mc ρ4 with
              | no => simp only [step, turnC, eb, ec, R.bind] at hr; cases hr
              | ex c r => simp only [step, turnC, eb, ec, R.bind] at hr; cases hr
              | ok k ρ5 =>
                intro H3 x3
                cases k with
                | false =>
                  simp only [step, turnC, eb, ec, R.bind, Bool.false_eq_true, if_false] at hr
                  rw [if_neg (by decide)]
                  obtain ⟨_, l'⟩ := l.turn gr p4 hne x3.three
                  refine ⟨hlt, wipeAll ρ5 ns, acc, vs, ?_⟩
                  split at hr
                  · rename_i rest' r'' hq
                    cases hr
                    exact ⟨_, l', x3.fr.kp E _ (p4.sfr.fr.kp E _ (gr E _ ev) (fun ps z => by cases z) fun w => l.rel.privZ w.priv (.inr rfl)) (fun ps z => by cases z) fun w => p4.rel.privZ w.priv (.inr rfl), l.keepL gr p4 x3 we q, Nat.le_succ_of_le ha, hq, hs⟩
                  · cases hr
                | true =>
                  rw [if_pos rfl]
                  refine ⟨zAnd Z E, ρ5, x3.rel, ?_⟩
                  cases ee : me ρ5 with
                  | no => simp only [step, turnC, eb, ec, ee, R.bind, if_true] at hr; cases hr
                  | ex c r => simp only [step, turnC, eb, ec, ee, R.bind, if_true] at hr; cases hr
                  | ok v ρ6 =>
                    simp only [step, turnC, eb, ec, ee, R.bind, if_true] at hr
                    intro y H4 pe
                    have x4 : XPost C (zAnd Z E) ρ4 σ2 H2 ρ6 H4 := (x3.mid.trans (pe.x x3.rel).mid).fin
                    have vv := pe.val x3.rel
                    have eE : H4 E = some (.lst vs) := x4.fr.kp E _ (p4.sfr.fr.kp E _ (gr E _ ev) (fun ps z => by cases z) fun w => l.rel.privZ w.priv (.inr rfl)) (fun ps z => by cases z) fun w => p4.rel.privZ w.priv (.inr rfl)
                    obtain ⟨_, l'⟩ := l.turn gr p4 hne x4.three
                    have ql := l.keepL gr p4 x4 we q
                    have qy : Rp C.K (Av (zAnd Z E) (wipeAll ρ6 ns) (wipe σ ns)) H4 v.2 y := Rp.keep (fun _ _ e _ => e) (fun b _ u => ⟨u.1, fun w => u.2 (by rw [← we] at w; exact wipe_priv w)⟩) _ _ vv.2
                    have vl : vs.length = acc.length := q.length
                    refine ⟨vs, eE, by omega, hlt, wipeAll ρ6 ns, acc ++ [v.2], vs ++ [y], ?_⟩
                    split at hr
                    · rename_i rest' r'' hq
                      cases hr
                      refine ⟨rest', l'.upd (.inr rfl) hE eE, upd_same, RpL.keep (keepOut (.inr rfl) eE) (fun _ _ u => u) _ _ (ql.append (RpL.cons qy RpL.nil)), by simp; omega, hq, by simpa using hs⟩
                    · cases hr
          · have e1 : i = ds.length := by omega
            subst e1
            rw [List.drop_length] at hr
            simp only [loopC] at hr
            cases hr
            rw [List.append_nil] at hs
            subst hs
            refine .inl ⟨gs, h (.ref E) H' ?_⟩
            have sv0 := save_val hv
            have nw : ∀ j ∈ ns, j ∉ ws := fun j m mw => by
              obtain ⟨s, es, fs⟩ := hw j mw
              rcases sv0 j m with e | ⟨s', e, f⟩
              · rw [es] at e; cases e
              · rw [es] at e; cases e
                rw [fs] at f; cases f
            obtain ⟨sf, rb, mb, pb⟩ := l.back rl (fun b z => z.imp id fun z => by rw [z]; exact hE) hv (fun j m => (lend_same (nw j m)).symm) (by rw [lend_len])
            have hu := SPost.unlendZ (Z' := zAnd Z E) p.rel hw (fun b z => z.elim .inl fun z => .inr (.inl (by rw [z]; exact hE))) ⟨sf, rb⟩
            have mu : Mono ρ1 (unlend (backAll ρe sv) ws) := by
              refine ⟨hu.1.len, fun j s' q' => ?_, fun j s q' => ?_⟩
              · obtain ⟨s, e, ed, ep, qq⟩ := unlend_bk q'
                obtain ⟨s2, e2, q2, f2, d2⟩ := mb.bk j s e
                obtain ⟨s1, es, ds1, ps1, q1⟩ := lend_at hw e2
                refine ⟨s1, es, ep.trans (q2.trans ps1), ?_, fun w => ?_⟩
                · rcases q1 with ⟨nm, rfl⟩ | ⟨m1, f1, o1⟩
                  · rcases qq with ⟨f, _⟩ | ⟨m1, _, _⟩
                    · rw [f]; exact f2
                    · exact absurd m1 nm
                  · rcases qq with ⟨f, nl⟩ | ⟨_, _, f⟩
                    · rw [f]
                      rcases f2 with f2 | ⟨f2, _⟩
                      · exact absurd ⟨m1, by rw [f2]; exact f1⟩ nl
                      · exact .inr ⟨f2, by rw [o1]; decide⟩
                    · exact .inl (by rw [f, o1])
                · rcases q1 with ⟨nm, rfl⟩ | ⟨m1, f1, o1⟩
                  · exact ed.trans (d2 w)
                  · exact absurd o1 w
              · obtain ⟨s1, e1⟩ := lend_fw (ws := ws) q'
                obtain ⟨s2, e2⟩ := mb.fw j s1 e1
                exact unlend_fw e2
            refine ⟨p.fr.trans p.mono hu.1.fr, p.mono.trans mu, E, rfl, p.fr.none hE, hu.2, vs, ev, RpL.keep (fun _ _ e _ => e) (fun b _ u => ⟨u.1, fun w => u.2 (pb b (unlend_priv w))⟩) _ _ q⟩
end
end VS
end

section
set_option autoImplicit false
set_option linter.all false
/-! VLc3: list comprehensions as expressions and assigned. -/
namespace VS
open PySem PySem.Spec PyProof.Rows L2

section
variable {C : RC} {X : Cx}
theorem takes_no : Takes X (fun _ _ _ _ => False) := fun _ _ ⟨_, _, _, _, _, _, _, _, _, _, _, _, _, _, _, _, w⟩ => w.elim
theorem PTs.imp {ifs : List Expr} {t t' : TT} (h : PTs X ifs t) (i : ∀ σ H Q, t' σ H Q → t σ H Q) : PTs X ifs t' := ⟨fun pins s σ H Q I q => h.run pins s σ H Q I (i σ H Q q)⟩
/-- a comprehension's tests -/
def SBs (C : RC) (X : Cx) (ifs : List Expr) (ev : Rho → R Bool) : Prop := ∀ W, Takes X W → PTs X ifs (tT C W ev)
theorem sbs_nil : SBs C X [] (fun r => .ok true r) := fun W tk => PTs.imp pts_nil fun σ H Q ⟨Z, ρ, r, h⟩ => h H (.start r)
theorem sbs_one {c : Expr} {m : Rho → R Bool} (h : SB C X c m) : SBs C X [c] m := fun W tk => pts_one (h W tk)
/-- a comprehension's block -/
abbrev Blk (X : Cx) (scope : Scope) (s : Shared) (H : Hp) (E : Addr) (cl : List (PySem.Str × Addr)) (fp : List Addr) : Cx := X.blk s H scope (compEnvC scope cl E X.env) fp
variable {elt tg iter : Expr} {ifs : List Expr} {scope : Scope} {own : List (PySem.Str × Nat)} {pos : Pos} {t : Tg} {msc : Rho → R (List VS.D × List Nat)} {mc : Rho → R Bool} {me : Rho → R (Ow × VS.D)}
theorem se_lc (hc : X.calm = true) (hN : X.N.Nodup) (hi : SI C X tg iter msc) (ok : BlkOk X.N X.env.scope scope own) (hown : own.map (·.2) = namesT t)
    (hg : ∀ (s : Shared) (H : Hp) (E : Addr) (cl : List (PySem.Str × Addr)) (fp : List Addr), PG (Blk X scope s H E cl fp) tg (gT C (namesT t) (bindT t))) (ht : ∀ (s : Shared) (H : Hp) (E : Addr) (cl : List (PySem.Str × Addr)) (fp : List Addr), SBs C (Blk X scope s H E cl fp) ifs mc)
    (he : ∀ (s : Shared) (H : Hp) (E : Addr) (cl : List (PySem.Str × Addr)) (fp : List Addr), SE C (Blk X scope s H E cl fp) elt me) (hs : ∀ x, foldedSetIterable iter X.env x = pure x) :
    SE C X (.ListComp elt [⟨tg, iter, ifs, 0⟩] scope pos) (lcEv t msc mc me) := by
  intro W tk
  refine PE.imp (pe_lc hc hN (hi W tk) ok hg (fun s H E cl fp => ht s H E cl fp _ takes_no) (fun s H E cl fp => he s H E cl fp _ takes_no) hs) fun σ H Q h => ?_
  rw [hown]
  exact imp_lc h
theorem ss_setLc {i : Nat} {y : PySem.Str} {py spos : Pos} (hc : X.calm = true) (hN : X.N.Nodup) (hy : X.N[i]? = some y) (hyl : X.env.scope.names.lookup y = some .local)
    (hsw : swapsWith (.ListComp elt [⟨tg, iter, ifs, 0⟩] scope pos) (some (.Name y py)) spos.line X.env = pure true) (hi : SI C X tg iter msc) (ok : BlkOk X.N X.env.scope scope own) (hown : own.map (·.2) = namesT t)
    (hg : ∀ (s : Shared) (H : Hp) (E : Addr) (cl : List (PySem.Str × Addr)) (fp : List Addr), PG (Blk X scope s H E cl fp) tg (gT C (namesT t) (bindT t))) (ht : ∀ (s : Shared) (H : Hp) (E : Addr) (cl : List (PySem.Str × Addr)) (fp : List Addr), SBs C (Blk X scope s H E cl fp) ifs mc)
    (he : ∀ (s : Shared) (H : Hp) (E : Addr) (cl : List (PySem.Str × Addr)) (fp : List Addr), SE C (Blk X scope s H E cl fp) elt me) (hs : ∀ x, foldedSetIterable iter X.env x = pure x) :
    SS C X (.Assign [.Name y py] (.ListComp elt [⟨tg, iter, ifs, 0⟩] scope pos) spos) (asgR i (lcEv t msc mc me)) := by
  intro W tk
  refine PS.imp (ps_setLc hc hN hy hyl hsw (hi W tk) ok hg (fun s H E cl fp => ht s H E cl fp _ takes_no) (fun s H E cl fp => he s H E cl fp _ takes_no) hs) fun D σ H h => ?_
  rw [hown]
  have := imp_asg h
  unfold tAsg at this ⊢
  exact imp_lc this
end
end VS
end

section
set_option autoImplicit false
set_option linter.all false
/-! VLc4: a list of one new thing; a for over it. -/
namespace VS
open PySem PySem.Spec PyProof.Rows L2

section
variable {C : RC} {X : Cx} {W : WX} {Z : Addr → Prop} {ρ ρ0 ρ1 ρ2 ρ4 ρ6 ρ' ρe : Rho} {σ σ2 : L2.St} {H H1 H2 H4 H' : Hp} {ns ws : List Nat} {a b E : Addr}
/-- lent slots are given back behind a block -/
theorem mono_unlend {sv : List (Nat × Option Slot)} (hw : Owned ρ ws) (mb : Mono (lendAll ρ ws) ρe) (hl : (unlend ρe ws).length = ρ.length) : Mono ρ (unlend ρe ws) := by
  refine ⟨hl, fun j s' q' => ?_, fun j s q' => ?_⟩
  · obtain ⟨s, e, ed, ep, qq⟩ := unlend_bk q'
    obtain ⟨s2, e2, q2, f2, d2⟩ := mb.bk j s e
    obtain ⟨s1, es, ds1, ps1, q1⟩ := lend_at hw e2
    refine ⟨s1, es, ep.trans (q2.trans ps1), ?_, fun w => ?_⟩
    · rcases q1 with ⟨nm, rfl⟩ | ⟨m1, f1, o1⟩
      · rcases qq with ⟨f, _⟩ | ⟨m1, _, _⟩
        · rw [f]; exact f2
        · exact absurd m1 nm
      · rcases qq with ⟨f, nl⟩ | ⟨_, _, f⟩
        · rw [f]
          rcases f2 with f2 | ⟨f2, _⟩
          · exact absurd ⟨m1, by rw [f2]; exact f1⟩ nl
          · exact .inr ⟨f2, by rw [o1]; decide⟩
        · exact .inl (by rw [f, o1])
    · rcases q1 with ⟨nm, rfl⟩ | ⟨m1, f1, o1⟩
      · exact ed.trans (d2 w)
      · exact absurd o1 w
  · obtain ⟨s1, e1⟩ := lend_fw (ws := ws) q'
    obtain ⟨s2, e2⟩ := mb.fw j s1 e1
    exact unlend_fw e2
def lc1Ev (i : Nat) (msc : Rho → R (List VS.D × List Nat)) (me : Rho → R (Ow × VS.D)) (r : Rho) : R (Ow × VS.D) := (msc r).bind fun its r1 => (inScope (.nm i) its.2 r1 fun r2 => oneC i its.1 me r2).bind fun v r' => if v.1 = .own then .ok (.one, .lst [v.2]) r' else .no
theorem imp_lc1 {i : Nat} {msc : Rho → R (List VS.D × List Nat)} {me : Rho → R (Ow × VS.D)} {Q : VK} (h : tX C W (lc1Ev i msc me) (GE C) σ H Q) :
    tLc (tSc C W msc) (gT C (namesT (.nm i)) (bindT (.nm i))) (tT C (fun _ _ _ _ => False) (fun r => .ok true r)) (tX C (fun _ _ _ _ => False) me (GE C)) [i] σ H Q := by
  obtain ⟨Z, ρ, r0, h⟩ := h
  refine ⟨Z, ρ, r0, ?_⟩
  unfold lc1Ev at h
  cases e0 : msc ρ with
  | no => simp only [e0, R.bind] at h
  | ex c ρ1 => simp only [e0, R.bind] at h; exact h
  | ok its ρ1 =>
    obtain ⟨ds, ws⟩ := its
    intro J H1 p hw gi E hE
    simp only [e0, R.bind, inScope, namesT] at h
    cases hv : saveAll ρ1 [i] with
    | none => simp only [hv] at h
    | some sv =>
      simp only [hv] at h
      have rl := p.rel.lendAll hw
      cases hm : oneC i ds me (wipeAll (lendAll ρ1 ws) [i]) with
      | no => simp only [hm] at h
      | ex c r => simp only [hm] at h
      | ok v ρe =>
        simp only [hm] at h
        obtain ⟨o, d1⟩ := v
        cases o with
        | val => simp at h
        | one => simp at h
        | own =>
          simp only [if_true] at h
          match ds, hm, gi with
          | [], hm, _ => simp [oneC] at hm
          | _ :: _ :: _, hm, _ => simp [oneC] at hm
          | [d], hm, gi =>
            simp only [oneC] at hm
            cases eb : bindT (.nm i) d (wipeAll (lendAll ρ1 ws) [i]) with
            | none => simp only [eb] at hm; cases hm
            | some ρ4 =>
              simp only [eb] at hm
              cases ee : me ρ4 with
              | no => simp only [ee, R.bind] at hm; cases hm
              | ex c r => simp only [ee, R.bind] at hm; cases hm
              | ok v ρ6 =>
                simp only [ee, R.bind] at hm
                cases hm
                have l0 : LS C (zAnd Z E) (lendAll ρ1 ws) σ H1 [i] (wipeAll (lendAll ρ1 ws) [i]) (upd H1 E (.lst [])) := ⟨(SFr.wipe.trans (.exp (.grow (Grow.new hE)) (.refl _))), rl.wipe.addZ hE, fun j s q => (by
                  obtain ⟨n, e⟩ := wipeA_at q
                  exact ⟨n, s, e, rfl, .inl rfl, fun _ => rfl⟩), fun j s n q => ⟨s, by rw [wipeA_ne n]; exact q⟩⟩
                let Fin : Hp → Prop := fun H' => ∃ b, H1 b = none ∧ b ≠ E ∧ LS C (zAnd (zAnd Z E) b) (lendAll ρ1 ws) σ H1 [i] (wipeAll ρ6 [i]) H' ∧ H' E = some (.lst [.ref b]) ∧ Top C.K (Av (zAnd (zAnd Z E) b) (wipeAll ρ6 [i]) (wipe σ [i])) H' d1 b
                refine ⟨fun k m H' => (k = 0 ∧ m = 1 ∧ H' = upd H1 E (.lst [])) ∨ (k = 1 ∧ m = 0 ∧ Fin H'), ⟨1, .inl ⟨rfl, rfl, rfl⟩⟩, ?_⟩
                rintro k m H' (⟨rfl, rfl, rfl⟩ | ⟨rfl, rfl, b, hb, bE, l, eE, tp⟩)
                · refine .inr ?_
                  obtain ⟨gg, _⟩ := gi (zAnd Z E) _ (wipe σ [i]) _ (.and _ hE) l0.sfr l0.rel
                  obtain ⟨go, gy⟩ := gg 0 d rfl
                  refine ⟨go, Fin, fun H' w => ⟨0, by decide, .inr ⟨rfl, rfl, w⟩⟩, fun x H2 y => ?_⟩
                  obtain ⟨gr, rp⟩ := gy x H2 y
                  refine ⟨zAnd Z E, _, d, ρ4, l0.rel.grow gr, rp_or l0.rel gr rp, eb, fun σ2 p4 hne => ?_⟩
                  have we := (l0.turn gr p4 hne (XPost.start p4.rel).three).1
                  refine ⟨we, zAnd Z E, ρ4, p4.rel, fun H3 x3 => ?_⟩
                  simp only [if_true]
                  refine ⟨zAnd Z E, ρ4, x3.rel, ?_⟩
                  rw [ee]
                  intro y H4 pe
                  obtain ⟨b, rfl, nb, rb, tb⟩ := pe.res
                  have fr4 : Fr ρ4 σ2 H2 H4 := x3.fr.trans x3.mono pe.fr
                  have mo4 : Mono ρ4 ρ6 := x3.mono.trans pe.mono
                  have eE : H4 E = some (.lst []) := fr4.kp E _ (p4.sfr.fr.kp E _ (gr E _ upd_same) (fun ps z => by cases z) fun w => l0.rel.privZ w.priv (.inr rfl)) (fun ps z => by cases z) fun w => p4.rel.privZ w.priv (.inr rfl)
                  obtain ⟨_, l'⟩ := l0.turn gr p4 hne ⟨fr4, mo4, rb⟩
                  have bE : b ≠ E := fun z => by
                    have e3 : H3 E = some (.lst []) := x3.fr.kp E _ (p4.sfr.fr.kp E _ (gr E _ upd_same) (fun ps z => by cases z) fun w => l0.rel.privZ w.priv (.inr rfl)) (fun ps z => by cases z) fun w => p4.rel.privZ w.priv (.inr rfl)
                    rw [z, e3] at nb; cases nb
                  refine ⟨[], eE, by decide, b, ?_, bE, l'.upd (.inl (.inr rfl)) hE eE, upd_same, ?_⟩
                  · have h2 := (p4.sfr.fr.none (x3.fr.none nb))
                    cases q : H1 b with
                    | none => rfl
                    | some u =>
                      have := gr b u (by rw [upd_ne bE]; exact q)
                      rw [h2] at this; cases this
                  · refine Top.keep (keepOut (.inl (.inr rfl)) eE) (fun c _ u => ⟨u.1, fun w => u.2 (by rw [← we] at w; exact wipe_priv w)⟩) (fun o e _ => by rw [upd_ne bE]; exact e) (Top.keep (P' := Av (zAnd (zAnd Z E) b) ρ6 σ2) (fun _ _ e _ => e) (fun _ _ u => u) (fun _ e _ => e) tb)
                · obtain ⟨_, gs⟩ := gi (zAnd (zAnd Z E) b) _ (wipe σ [i]) H' ⟨fun c z => .inl (.inl z), fun c z => by
                    rcases z with (z | z) | z
                    · exact .inl z
                    · rw [z]; exact .inr hE
                    · rw [z]; exact .inr hb⟩ l.sfr l.rel
                  refine .inl ⟨gs, h (.ref E) H' ?_⟩
                  have sv0 := save_val hv
                  have nw : ∀ j ∈ [i], j ∉ ws := fun j m mw => by
                    obtain ⟨s, es, fs⟩ := hw j mw
                    rcases sv0 j m with e | ⟨s', e, f⟩
                    · rw [es] at e; cases e
                    · rw [es] at e; cases e
                      rw [fs] at f; cases f
                  have hz : ∀ c, zAnd (zAnd Z E) b c → Z c ∨ H1 c = none := fun c z => by
                    rcases z with (z | z) | z
                    · exact .inl z
                    · rw [z]; exact .inr hE
                    · rw [z]; exact .inr hb
                  obtain ⟨sf, rb, mb, pb⟩ := l.back rl hz hv (fun j m => (lend_same (nw j m)).symm) (by rw [lend_len])
                  have hu := SPost.unlendZ (Z' := zAnd (zAnd Z E) b) p.rel hw (fun c z => (hz c z).imp id .inl) ⟨sf, rb⟩
                  have mu := mono_unlend (sv := sv) hw mb hu.1.len
                  refine ⟨p.fr.trans p.mono hu.1.fr, p.mono.trans mu, E, b, d1, rfl, rfl, p.fr.none hE, p.fr.none hb, Ne.symm bE, eE, hu.2, Top.keep (fun _ _ e _ => e) (fun c _ u => ⟨u.1, fun w => u.2 (pb c (unlend_priv w))⟩) (fun _ e _ => e) tp⟩
variable {elt tg iter : Expr} {scope : Scope} {own : List (PySem.Str × Nat)} {pos : Pos} {msc : Rho → R (List VS.D × List Nat)} {me : Rho → R (Ow × VS.D)}
theorem se_lc1 {i : Nat} (hc : X.calm = true) (hN : X.N.Nodup) (hi : SI C X tg iter msc) (ok : BlkOk X.N X.env.scope scope own) (hown : own.map (·.2) = [i])
    (hg : ∀ (s : Shared) (H : Hp) (E : Addr) (cl : List (PySem.Str × Addr)) (fp : List Addr), PG (Blk X scope s H E cl fp) tg (gT C (namesT (.nm i)) (bindT (.nm i))))
    (he : ∀ (s : Shared) (H : Hp) (E : Addr) (cl : List (PySem.Str × Addr)) (fp : List Addr), SE C (Blk X scope s H E cl fp) elt me) (hs : ∀ x, foldedSetIterable iter X.env x = pure x) :
    SE C X (.ListComp elt [⟨tg, iter, [], 0⟩] scope pos) (lc1Ev i msc me) := by
  intro W tk
  refine PE.imp (pe_lc hc hN (hi W tk) ok hg (fun s H E cl fp => sbs_nil (C := C) _ takes_no) (fun s H E cl fp => he s H E cl fp _ takes_no) hs) fun σ H Q h => ?_
  rw [hown]
  exact imp_lc1 h
end
end VS
end

section
set_option autoImplicit false
set_option linter.all false
/-! VFor1: a for over a list of one new thing. -/
namespace VS
open PySem PySem.Spec PyProof.Rows L2

section
variable {C : RC} {X : Cx} {W : WX} {Z : Addr → Prop} {ρ ρ0 ρ1 ρ2 ρ4 ρ6 ρ' ρe : Rho} {σ σ2 σ' : L2.St} {H H1 H2 H4 H' : Hp} {ns ws : List Nat} {a b E : Addr} {i : Nat} {d : VS.D}
theorem SFr.storeO (sx : SFr ρ σ H ρ1 σ H1) (nb : H b = none) (li : i < ρ1.length) (ls : i < σ.length) : SFr ρ σ H (putS ρ1 i (newS .own d)) (σ.set i (some (.ref b))) H1 := by
  refine ⟨sx.fr, by simp [putS, sx.len], fun c h => ?_, fun c h => ?_, fun c h => ?_, fun j t h pt => ?_, fun j t h ft => ?_⟩
  · rcases put_priv li h ls with h | ⟨_, e⟩
    · exact sx.priv c h
    · cases e; exact .inr nb
  · rcases put_own li h ls with h | ⟨_, e⟩
    · exact sx.own c h
    · cases e; exact .inr nb
  · rcases put_ownl li h ls with h | ⟨_, e⟩
    · exact sx.ownl c h
    · cases e; exact .inr nb
  · rcases put_at li h with ⟨rfl, rfl⟩ | ⟨hj, h⟩
    · cases pt
    · obtain ⟨s0, h0, q⟩ := sx.par j t h pt
      exact ⟨s0, h0, q.1, by rw [set_ne hj], q.2.2⟩
  · rcases put_at li h with ⟨rfl, rfl⟩ | ⟨hj, h⟩
    · cases ft
    · obtain ⟨s0, h0, q1, q2, q3, q4⟩ := sx.lnt j t h ft
      exact ⟨s0, h0, q1, q2, q3, by rw [set_ne hj]⟩
theorem OutS.weakZ {q : SR} {D : Ends} {Z' : Addr → Prop} (hz : ∀ c, Z c → Z' c) (h : OutS C Z ρ σ H W q D) : OutS C Z' ρ σ H W q D := by
  have sp : ∀ {r : Rho} {σ' : L2.St} {H' : Hp}, SPost C Z' ρ σ H r σ' H' → SPost C Z ρ σ H r σ' H' := fun p => ⟨p.sfr, p.rel.weak hz⟩
  have k : ∀ (P : Addr → Prop) (H : Hp), Keep P H H := fun _ _ _ _ e _ => e
  have av : ∀ {Z Z' : Addr → Prop} {r : Rho} {σ' : L2.St}, (∀ c, Z c → Z' c) → ∀ c, Av Z' r σ' c → Av Z r σ' c := fun hz c p => ⟨fun z => p.1 (hz c z), p.2⟩
  cases q with
  | nx r => exact fun σ' H' p => h σ' H' (sp p)
  | bk r => exact fun σ' H' p => h σ' H' (sp p)
  | ct r => exact fun σ' H' p => h σ' H' (sp p)
  | ex c r => exact fun σ' H' p => h σ' H' (sp p)
  | no => exact h
  | rt o d r =>
    intro v σ' H' p
    refine h v σ' H' ⟨p.sfr, ?_⟩
    have q := p.res
    cases o with
    | val => exact ⟨q.1.weak hz, Rp.keep (k _ _) (fun c _ => av hz c) _ _ q.2⟩
    | own =>
      obtain ⟨a, e, n, r, t⟩ := q
      have hz2 : ∀ c, zAnd Z a c → zAnd Z' a c := fun c z => z.imp (hz c) id
      exact ⟨a, e, n, r.weak hz2, Top.keep (k _ _) (fun c _ => av hz2 c) (fun _ e _ => e) t⟩
    | one =>
      obtain ⟨a, b, d1, e, e1, na, nb, ne, ea, r, t⟩ := q
      have hz2 : ∀ c, zAnd (zAnd Z a) b c → zAnd (zAnd Z' a) b c := fun c z => z.imp (fun z => z.imp (hz c) id) id
      exact ⟨a, b, d1, e, e1, na, nb, ne, ea, r.weak hz2, Top.keep (k _ _) (fun c _ => av hz2 c) (fun _ e _ => e) t⟩
def for1Ev (i : Nat) (me : Rho → R (Ow × VS.D)) (mb : Rho → SR) (r : Rho) : SR := (me r).bindS fun v r1 => match v with
  | (.one, .lst [d]) => if i < r1.length then match mb (putS r1 i (newS .own d)) with
    | .ct r2 => .nx r2
    | .bk r2 => .nx r2
    | q => q else .no
  | _ => .no
theorem ss_for1 {n : PySem.Str} {px : Pos} {iter : Expr} {bd : List Stmt} {pos : Pos} {me : Rho → R (Ow × VS.D)} {mb : Rho → SR} (hk : C.K = X.K) (hp : PassesOwn (model X.prog X.w) X.A X.env X.xe) (hc : X.calm = true) (hN : X.N.Nodup) (hi : X.N[i]? = some n) (hx : Loc X.env.scope n) (hf : X.fn n = true ∨ X.env.scope.names.lookup n = some .local)
    (he : SE C X iter me) (hb : SSs C X bd mb) (hs : ∀ x, foldedSetIterable iter X.env x = pure x) : SS C X (.For (.Name n px) iter bd [] pos) (for1Ev i me mb) := by
  intro W tk
  refine PS.imp (ps_for hp hc (pi_list (tg := .Name n px) (he W tk)) (pg_name hN hi hx hf) (hb W tk) hs) ?_
  rintro D σ H ⟨Z, ρ, r, h⟩
  unfold for1Ev at h
  refine OutS.val (W := W) (f := fun v r1 => match v with
    | (.one, .lst [d]) => if i < r1.length then match mb (putS r1 i (newS .own d)) with
      | .ct r2 => .nx r2
      | .bk r2 => .nx r2
      | q => q else .no
    | _ => .no) r h fun v ρ1 x H1 p h1 => ?_
  obtain ⟨o, d0⟩ := v
  cases o with
  | val => exact h1.elim
  | own => exact h1.elim
  | one =>
    obtain ⟨a, b, d1, rfl, e0, na, nb, ne, ea, rb, tb⟩ := p.res
    have e0 : d0 = .lst [d1] := e0
    subst e0
    by_cases li : i < ρ1.length
    · simp only [if_pos li] at h1
      have ls : i < σ.length := by rw [← rb.len]; exact li
      have sx := SFr.storeO (d := d1) (p.x r).sfr nb li ls
      have rz : Rel C (zAnd Z a) (putS ρ1 i (newS .own d1)) (σ.set i (some (.ref b))) H1 := rb.putO li (fun z => z.elim (r.noneZ nb) fun z => ne z.symm) tb
      have ho := OutS.weakZ (Z' := zAnd Z a) (fun c z => .inl z) (OutS.after sx h1)
      have na2 : ∀ {r' : Rho} {σ' : L2.St} {H' : Hp}, SFr (putS ρ1 i (newS .own d1)) (σ.set i (some (.ref b))) H1 r' σ' H' → SqL X.K H' a [.ref b] := fun f => .inl (.inl (f.fr.kp a _ ea (fun ps z => by cases z) fun w => rz.privZ w.priv (.inr rfl)))
      refine ⟨a, rfl, ⟨_, .inl (.inl ea)⟩, fun k m σ' H' => (k = 0 ∧ m = 1 ∧ σ' = σ ∧ H' = H1) ∨ (k = 1 ∧ m = 0 ∧ D.nx σ' H' ∧ SqL X.K H' a [.ref b]), ⟨1, .inl ⟨rfl, rfl, rfl, rfl⟩⟩, ?_⟩
      rintro k m σ' H' (⟨rfl, rfl, rfl, rfl⟩ | ⟨rfl, rfl, hn, hq⟩)
      · refine .inr ⟨⟨_, .ref b, .inl (.inl ea), rfl⟩, fun σ' H' => D.nx σ' H' ∧ SqL X.K H' a [.ref b], fun σ' H' w => ⟨0, by decide, .inr ⟨rfl, rfl, w⟩⟩, fun x H2 y => ?_⟩
        obtain ⟨rfl, y⟩ := y
        have := y _ (.inl (.inl ea))
        cases this
        refine ⟨zAnd Z a, _, rz, ?_⟩
        cases em : mb (putS ρ1 i (newS .own d1)) with
        | nx r2 => simp only [em] at ho; exact fun σ' H' q => ⟨ho σ' H' q, na2 q.sfr⟩
        | ct r2 => simp only [em] at ho; exact fun σ' H' q => ⟨ho σ' H' q, na2 q.sfr⟩
        | bk r2 => simp only [em] at ho; exact ho
        | rt o d r2 => simp only [em] at ho; exact ho
        | ex c r2 => simp only [em] at ho; exact ho
        | no => simp only [em] at ho; exact ho
      · exact .inl ⟨⟨_, hq, Nat.le_refl _⟩, hn⟩
    · simp only [if_neg li] at h1
      exact h1.elim
end
end VS
end

section
set_option autoImplicit false
set_option linter.all false
/-! VLam: a lambda without parameters, handed to a def that calls it. -/
namespace VS
open PySem PySem.Spec PyProof.Rows L2 LamX

/-- all but the tables stay, nothing is lost -/
def ExtD (H H' : Hp) : Prop := ExtN H H' ∧ ∀ b o, H b = some o → ∃ o', H' b = some o'
section
variable {X : Cx} {pins : List (Addr × Obj)} {σ : L2.St} {H : Hp} {s : Shared}
theorem lam_mk0 {T : Tbs} {cd tb : Addr} {nm : PySem.Str} {G : List (Nat × Nat)} {pr : Arguments} {bd : Expr} {sc : Scope} {at' : Pos} {E : Value → Shared → Prop} {Q : Value → Shared → Prop} (hn : nm = X.env.qual ++ "<lambda>") (I : Inv X pins σ H s) (B : TabB X.base X.mg cd tb) (hcd : X.env.code = .ref cd)
    (ht : (tb, nm, G) ∈ T) (one : ∀ p ∈ T, p.1 = tb → p.2 = (nm, G)) (hG0 : inG G at' = false) (tt : Tabs T H) (nodef : defaultsOf pr X.env = ([], [])) (cells : ∀ y ∈ sc.names, y.2 = .free → ∃ c, X.env.cells.lookup y.1 = some c)
    (k : ∀ (c2 : Addr) (pm cv : Value) (H1 : Hp) (h2 : Heap) (tk : Nat), Inv X pins σ H1 { s with heap := h2, toks := tk } → ExtD H H1 → Tabs T H1 → H1 c2 = some (CodeO c2 nm) → (∀ f, h2.objs.size ≤ f → f ∉ frs X.stack) → Q (.ref h2.objs.size) { s with heap := h2.push (PySem.W.kla_obj "<lambda>" nm pr bd sc (cloFrom X.env.cells sc.names []) pm c2 cv), toks := tk }) :
    wpAny (model X.prog X.w) X.A (eval (.Lambda pr bd sc at') X.env) Q E s := by
  subst hn
  -- the table as it stands
  obtain ⟨ps, tP, tOk, tNm⟩ := tt _ ht
  have at0 := I.hok tb _ tP
  have young : ∀ f, s.heap.objs.size ≤ f → f ∉ frs X.stack := fun f old m => by
    rcases List.mem_cons.1 (I.stkSub _ m) with z | z
    · exact absurd (z ▸ I.lt) (Nat.not_lt.2 old)
    · exact I.nofs old z
  refine PySem.W.kla_eval nodef ?_
  rcases hit : codeAmong at' ps.toList with _ | cv
  · -- a new code object
    refine PySem.W.kla_makeFunction (mg := X.mg) (c := cd) (P := tb) (ps := ps) (closure_ok cells) I.ok.glob (I.mod.glob.keeps I.bk) hcd (B.code.keeps I.bk) at0 tOk hit B.gP (B.bm.keeps I.bk) ?_
    rintro c2 cv h2 tk old young2 lt2 ⟨cc, oc, vs, t, ec, hoc, hd, hv⟩ tb2
    cases ec
    have c2n : H c2 = none := I.hok.fresh young2
    have grown : s.heap.objs.size ≤ h2.objs.size := Nat.le_trans young2 (Nat.le_of_lt lt2)
    have I1 := inv_table (t' := tk) (more := #[rawInt at'.line, rawInt at'.col, .ref c2]) (h' := h2) I tP
      (fun b o nb e => old b o nb e) tb2 young2 ⟨oc, vs, t, hoc, hd, hv⟩
    have seen : ∀ b o, H b = some o → b ≠ tb → upd (upd H tb (.tbl (ps ++ #[rawInt at'.line, rawInt at'.col, .ref c2]))) c2 (CodeO c2 (X.env.qual ++ "<lambda>")) b = some o := fun b o e n => by
      rw [upd_ne (ne_of_none e c2n), upd_ne n]; exact e
    have notTb : ∀ b o, H b = some o → (∀ qs, o ≠ .tbl qs) → b ≠ tb := fun b o e n z => by
      rw [z, tP] at e
      exact n ps (Option.some.inj e).symm
    have tbNow : upd (upd H tb (.tbl (ps ++ #[rawInt at'.line, rawInt at'.col, .ref c2]))) c2 (CodeO c2 (X.env.qual ++ "<lambda>")) tb = some (.tbl (ps ++ #[rawInt at'.line, rawInt at'.col, .ref c2])) := by
      rw [upd_ne (ne_of_none tP c2n), upd_same]
    have more : (ps ++ #[rawInt at'.line, rawInt at'.col, .ref c2]).toList = ps.toList ++ [rawInt at'.line, rawInt at'.col, .ref c2] := by simp
    have code : ∀ c0, H c0 = some (CodeO c0 (X.env.qual ++ "<lambda>")) → c0 ≠ tb := fun c0 e => notTb c0 _ e codeO_ne
    refine k c2 _ cv _ _ _ I1 ⟨fun b o e n => seen b o e (notTb b o e n), fun b o e => ?_⟩ (fun p hp => ?_) upd_same fun f hf => young f (Nat.le_trans grown hf)
    · by_cases z : b = tb
      · exact ⟨_, by rw [z]; exact tbNow⟩
      · exact ⟨o, seen b o e z⟩
    · by_cases z : p.1 = tb
      · rw [one p hp z, z]
        refine ⟨_, tbNow, by rw [more]; exact PySem.TriplesOk_snoc _ _ _ _ tOk, fun p2 v2 hv2 g2 => ?_⟩
        rw [more] at hv2
        rcases among_end _ tOk hv2 with w | w
        · obtain ⟨c0, e1, e2⟩ := tNm p2 v2 w g2
          exact ⟨c0, e1, seen c0 _ e2 (code c0 e2)⟩
        · exact ⟨c2, w.1, upd_same⟩
      · obtain ⟨qs, a1, a2, a3⟩ := tt p hp
        refine ⟨qs, seen p.1 _ a1 z, a2, fun p2 v2 hv2 g2 => ?_⟩
        obtain ⟨c0, e1, e2⟩ := a3 p2 v2 hv2 g2
        exact ⟨c0, e1, seen c0 _ e2 (notTb c0 _ e2 codeO_ne)⟩
  · -- one that is known
    obtain ⟨c2, rfl, known⟩ := tNm at' cv hit hG0
    refine PySem.W.kla_makeFunctionHit (mg := X.mg) (c := cd) (P := tb) (ps := ps) (closure_ok cells) I.ok.glob (I.mod.glob.keeps I.bk) hcd (B.code.keeps I.bk) at0 tOk hit (B.bm.keeps I.bk) ?_
    intro cv h2 tk old sz
    have I1 : Inv X pins σ H { s with heap := h2, toks := tk } := I.kept old
    exact k c2 _ cv H _ _ I1 ⟨ExtN.refl H, fun b o e => ⟨o, e⟩⟩ tt known fun f hf => young f (Nat.le_trans sz hf)
theorem lam_mk {T : Tbs} {cd tb : Addr} {nm : PySem.Str} {G : List (Nat × Nat)} {pr : Arguments} {bd : Expr} {sc : Scope} {at' : Pos} {E : Value → Shared → Prop} {Q : Value → Shared → Prop} (hn : nm = X.env.qual ++ "<lambda>") (I : Inv X pins σ H s) (B : TabB X.base X.mg cd tb) (hcd : X.env.code = .ref cd)
    (ht : (tb, nm, G) ∈ T) (one : ∀ p ∈ T, p.1 = tb → p.2 = (nm, G)) (hG0 : inG G at' = false) (tt : Tabs T H) (nodef : defaultsOf pr X.env = ([], [])) (cells : ∀ y ∈ sc.names, y.2 = .free → ∃ c, X.env.cells.lookup y.1 = some c)
    (k : ∀ (f c2 : Addr) (pm cv : Value) (H1 : Hp) (s2 : Shared), Inv X pins σ H1 s2 → ExtD H H1 → Tabs T H1 → s2.heap.get? f = some (PySem.W.kla_obj "<lambda>" nm pr bd sc (cloFrom X.env.cells sc.names []) pm c2 cv) → H1 f = none → f ∉ frs X.stack → H1 c2 = some (CodeO c2 nm) → Q (.ref f) s2) :
    wpAny (model X.prog X.w) X.A (eval (.Lambda pr bd sc at') X.env) Q E s :=
  lam_mk0 hn I B hcd ht one hG0 tt nodef cells fun c2 pm cv H1 h2 tk I1 eD T1 hc hy =>
    k h2.objs.size c2 pm cv H1 _ (I1.kept (t' := tk) fun b o e => Heap.get?_push_of_some _ e) eD T1 (Heap.get?_push_size _ rfl) (I1.hok.fresh (Nat.le_refl _)) (hy _ (Nat.le_refl _)) hc
/-- a lambda's object, tracked -/
def LamO (f : Addr) (nm : PySem.Str) (pr : Arguments) (bd : Expr) (sc : Scope) (cl : List (PySem.Str × Addr)) (c2 : Addr) : HO := .ext fun h => ∃ (pm cv : Value), h.get? f = some (PySem.W.kla_obj "<lambda>" nm pr bd sc cl pm c2 cv)
theorem lam_mkT {T : Tbs} {cd tb : Addr} {nm : PySem.Str} {G : List (Nat × Nat)} {pr : Arguments} {bd : Expr} {sc : Scope} {at' : Pos} {E : Value → Shared → Prop} {Q : Value → Shared → Prop} (hn : nm = X.env.qual ++ "<lambda>") (I : Inv X pins σ H s) (B : TabB X.base X.mg cd tb) (hcd : X.env.code = .ref cd)
    (ht : (tb, nm, G) ∈ T) (one : ∀ p ∈ T, p.1 = tb → p.2 = (nm, G)) (hG0 : inG G at' = false) (tt : Tabs T H) (nodef : defaultsOf pr X.env = ([], [])) (cells : ∀ y ∈ sc.names, y.2 = .free → ∃ c, X.env.cells.lookup y.1 = some c)
    (k : ∀ (f c2 : Addr) (H1 : Hp) (s2 : Shared), ExtD H H1 → Tabs T H1 → H1 f = none → H1 c2 = some (CodeO c2 nm) → Inv X pins σ (upd H1 f (LamO f nm pr bd sc (cloFrom X.env.cells sc.names []) c2)) s2 → Q (.ref f) s2) :
    wpAny (model X.prog X.w) X.A (eval (.Lambda pr bd sc at') X.env) Q E s :=
  lam_mk0 hn I B hcd ht one hG0 tt nodef cells fun c2 pm cv H1 h2 tk I1 eD T1 hc hy =>
    k h2.objs.size c2 H1 _ eD T1 (I1.hok.fresh (Nat.le_refl _)) hc (I1.laid (t' := tk) (fun b o e => Heap.get?_push_of_some _ e) (Nat.le_refl _)
      ⟨⟨pm, cv, Heap.get?_push_size _ rfl⟩, ⟨_, Heap.get?_push_size _ rfl⟩, fun h1 h2' ⟨pm, cv, q⟩ st => ⟨pm, cv, st _ q⟩⟩)
/-- the reading of a call of a def that calls a lambda -/
def tLamD (T : Tbs) (TT : (XK → Hp → VK → Prop) → Hp → VK → Prop) (t : XK → TE) : TE := fun σ H Q => Tabs T H ∧ ∀ H1, ExtD H H1 → Tabs T H1 → TT (fun E H' Q' => t E σ H' Q') H1 Q
theorem pe_lamD {T : Tbs} {TT : (XK → Hp → VK → Prop) → Hp → VK → Prop} {x a : PySem.Str} {Gs : List (Nat × Nat)} {g cd tb : Addr} {k : Nat} {pg : Arguments} {bg : List Stmt} {sg : Scope} {dV kV doc pm cdv ct oc : Value} {an od : Option Addr} {osl : Array (Option Value)} {Ng : List PySem.Str}
    {pr : Arguments} {bd : Expr} {sc : Scope} {t : XK → TE} {p lpos pos : Pos} (hg : Gl X x) (hm : X.mg x = some (.ref g)) (hk : PySem.W.keepIn X.K (.ref g) = true) (lk : X.K.lookup g = some ⟨oc, od, .func (PySem.W.fnOf x x pg bg sg dV kV doc pm an cdv ct), osl⟩)
    (hcg : PySem.W.codeIn X.K cdv x = true) (hb : L2.Binds X.K (PySem.W.fnOf x x pg bg sg dV kV doc pm an cdv ct) [a] []) (Sg : FnScope Ng [a] sg) (hNg : Ng[0]? = some a) (hva : Vis sg a) (hG : GivesTo X Ng x sg g cdv bg a (X.env.qual ++ "<lambda>") TT)
    (B : TabB X.base X.mg cd tb) (hcd : X.env.code = .ref cd) (ht : (tb, X.env.qual ++ "<lambda>", Gs) ∈ T) (one : ∀ p ∈ T, p.1 = tb → p.2 = (X.env.qual ++ "<lambda>", Gs)) (hG0 : inG Gs lpos = false) (hr : Room (k + 2) X.A) (L : LamS X.env.scope sc) (nodef : defaultsOf pr X.env = ([], []))
    (hbind : ∀ (q : PySem.Str) (cl : List (PySem.Str × Addr)) (pm cv ctv : Value), bindArgs (PySem.W.kla_fn "<lambda>" q pr bd sc cl pm cv ctv) ⟨[], []⟩ = pure [])
    (body : ∀ (A : Around) (outer : List Env) (s : Shared) (H : Hp) (E : XK) (f c' : Addr), Room k (A.deeper (lamEnv X sc s.heap.objs.size f c')) → PE (lamCx X A outer s H E sc f c') bd (t E))
    (hdb : (x == ("__debug__" : PySem.Str)) = false) (hd : (a == ("__debug__" : PySem.Str)) = false) (hcl : (a == ("__classdict__" : PySem.Str)) = false) :
    PE X (.Call (.Name x p) [.Lambda pr bd sc lpos] [] pos) (tLamD T TT t) := by
  refine ⟨fun pins s σ H Q I ⟨tt, h⟩ => wpAny_Call_Name_kw (ld_glob I hg hm ?_ hdb)⟩
  refine PySem.W.callWith_K (h₀ := X.base) I.ok.mod.kin hk ?_ (by rfl) (by rfl)
  show wpAny _ _ (spliced ((false, eval (.Lambda pr bd sc lpos) X.env) :: backTo pos (starEach [] X.env))) _ _ s
  refine Calls.spliced_cons (lam_mk rfl I B hcd ht one hG0 tt nodef (L.has I.ok) fun f c2 pm2 cv2 H1 s2 I1 eD T1 hf hfn hfr hco => Calls.spliced_nil ⟨I1.kIn, ?_⟩)
  have run : codeAny (model X.prog X.w) X.A (.call (.ref g) ⟨[.ref f], []⟩) (L2.CR C8.CX0 X.stack X.prog X.w H1 s2 Q C8.E0) s2 := by
    refine run_ofS (N := Ng) (ps := [a]) (us := [.ref f]) (vs := [.ref f]) lk hcg Sg hr I1.env0 (hb s2 [.ref f] I1.kIn rfl) (.cons rfl .nil) rfl fun hr2 => ?_
    obtain ⟨t2, h2, q2⟩ := hG f c2 s2 H1 Q (fun E H' Q' => t E σ H' Q') (fun W pn xe E p1 p2 tk hW => pe_act (i := 0) I1 L hf hfn hfr (hbind _ _ _ _ _) tk hW hr2 (fun A outer s H hr3 => body A outer s H E f c2 hr3) hNg hva hd hcl) hco (h H1 eD T1)
    exact ⟨t2, h2.nox, q2⟩
  refine wpAny_call (codeAny_mono run fun r s3 hq => ?_)
  rcases r with e | fl
  · exact (show False from hq).elim
  · cases fl with
    | ret u => exact I1.after hq
    | next => exact hq.elim
    | brk => exact hq.elim
    | cont => exact hq.elim
end
section
variable {C : RC} {X : Cx} {W : WX} {Z : Addr → Prop} {ρ : Rho} {σ : L2.St} {H H1 : Hp}
theorem Rel.extD (r : Rel C Z ρ σ H) (e : ExtD H H1) (t : Tabs C.T H1) : Rel C Z ρ σ H1 := r.heap (fun a o h n => e.1 a o h n) e.2 t
theorem Fr.extD (e : ExtD H H1) : Fr ρ σ H H1 := ⟨fun a o h n _ => e.1 a o h n, e.2⟩
/-- told(lambda: e) -/
def toldEv (m : Rho → R (Ow × VS.D)) (cs : List Nat) (z : List Nat) (r : Rho) : R (Ow × VS.D) := match m r with
  | .ok v r' => .ok v r'
  | .ex c r' => if cs.contains c then .ok (.val, .str z) r' else .no
  | .no => .no
theorem imp_told {m : Rho → R (Ow × VS.D)} {cs z : List Nat} {CS : Addr} {Q : VK} (hcs : ∀ c ∈ cs, PySem.W.exmOne X.K (C.cv c) (.ref CS) = some true) (h : tX C W (toldEv m cs z) (GE C) σ H Q) :
    tLamD C.T (TTold X.K CS (tx z)) (fun E => tX C (fun cls d _ H' => E cls d H') m (GE C)) σ H Q := by
  obtain ⟨Z, ρ, r0, h⟩ := h
  refine ⟨r0.tab, fun H1 eD T1 => ?_⟩
  have r1 := r0.extD eD T1
  have x1 : XPost C Z ρ σ H ρ H1 := ⟨.extD eD, .refl _, r1⟩
  refine ⟨Z, ρ, r1, ?_⟩
  unfold toldEv at h
  cases e : m ρ with
  | no => simp only [e] at h
  | ok v ρ1 =>
    simp only [e] at h
    exact fun x H2 p => h x H2 (p.after x1)
  | ex c ρ1 =>
    simp only [e] at h
    intro H2 p
    by_cases hc : cs.contains c = true
    · simp only [hc, if_true] at h
      refine ⟨true, hcs c (by simpa using hc), fun _ => ?_, fun q => by cases q⟩
      have x2 := (x1.mid.trans p.mid).fin
      exact h _ H2 ⟨x2.fr, x2.mono, x2.rel, by simp only [Rp]; rfl⟩
    · simp only [hc] at h
      exact h.elim
theorem lam_takes {A : Around} {outer : List Env} {s : Shared} {H : Hp} {E : XK} {sc : Scope} {f c2 : Addr} : Takes (lamCx X A outer s H E sc f c2) (fun cls d _ H => E cls d H) := takes_of rfl rfl rfl rfl
end
end VS
end

section
set_option autoImplicit false
set_option linter.all false
set_option maxRecDepth 20000
/-! VG1: the body of a generator expression, turn by turn. -/
namespace VS
open PySem PySem.Spec PyProof.Rows L2 GenW

theorem over_gs {A : Around} {e tg it : Expr} {ifs : List Expr} {sc : Scope} {p : Pos} {i acc : Value} {env : Env} : A.over (.compStart (.GeneratorExp e [⟨tg, it, ifs, 0⟩] sc p) 0 i acc env) [] = A.deeper env := by
  first
    | rfl
    | (obtain ⟨hd, d, fr, gs, u⟩ := A; simp [Around.over, Around.deeper, marksOver, frameCount, unitsOf, envsOf, guardsOf, pushEnvs, pushGuards, Code.envs, Code.env?, Code.isFrame, Code.guards, Code.isGuard, Code.weight, Code.frames, Code.isCreation, Code.isCaller, Code.cUnits])
theorem over_gl {A : Around} {e tg it : Expr} {ifs : List Expr} {sc : Scope} {p : Pos} {i acc : Value} {env : Env} : A.over (.compLoop (.GeneratorExp e [⟨tg, it, ifs, 0⟩] sc p) 0 i acc env) [] = A.deeper env := by
  first
    | rfl
    | (obtain ⟨hd, d, fr, gs, u⟩ := A; simp [Around.over, Around.deeper, marksOver, frameCount, unitsOf, envsOf, guardsOf, pushEnvs, pushGuards, Code.envs, Code.env?, Code.isFrame, Code.guards, Code.isGuard, Code.weight, Code.frames, Code.isCreation, Code.isCaller, Code.cUnits])

/-- the context of the body: A where it is woken -/
abbrev genCx (X : Cx) (A : Around) (s : Shared) (H : Hp) (env : Env) (fp : List Addr) (pn : List (Addr × Obj)) : Cx :=
  { X with A := A.deeper env, s_0 := s, H_0 := H, env := env, outer := X.stack, stack := env :: X.stack, ex := fp, fn := fun _ => false, calm := true, pn := pn, xe := fun _ _ => False }

/-- the consumer's own objects change while the generator sleeps -/
structure Slp (cp cp' : List (Addr × Obj)) (s s' : Shared) : Prop where
  os : s'.os = s.os
  bare : AllBare s'.gens
  keep : ∀ b o, b ∉ cp.map (·.1) → s.heap.get? b = some o → s'.heap.get? b = some o
  same : cp'.map (·.1) = cp.map (·.1)
  now : ∀ p ∈ cp', s'.heap.get? p.1 = some p.2 ∧ ∀ v, p.2.data ≠ .cell v
abbrev CIv := List V → List (Addr × Obj) → Prop
/-- an item is handed out; the consumer goes on only if Re -/
def GpY (X' : Cx) (CI : CIv) (Wy : List V → V → Hp → Prop) (Re : V → Prop) : Protocol := fun _ s₀ v s kap =>
  ∃ ys y σ H cp, RelV y v ∧ CI ys cp ∧ (∀ p ∈ cp, s₀.heap.get? p.1 = some p.2) ∧ Inv X' cp σ H s ∧ Wy ys y H ∧ ∀ s' cp', Re y → CI (ys ++ [y]) cp' → Slp cp cp' s s' → kap (.send .none) s'
def GpE (X' : Cx) (CI : CIv) (We : List V → Hp → Prop) (s₀ s : Shared) : Prop := ∃ ys σ H cp, CI ys cp ∧ (∀ p ∈ cp, s₀.heap.get? p.1 = some p.2) ∧ Inv X' cp σ H s ∧ We ys H
def GpR (X' : Cx) (CI : CIv) (We : List V → Hp → Prop) : GenEnd := fun _ s₀ r s => r = .ok .next ∧ GpE X' CI We s₀ s

section
variable {X : Cx} {cp cp' : List (Addr × Obj)} {σ : L2.St} {H : Hp} {s s' : Shared}
/-- behind the consumer's step -/
theorem Inv.slp (I : Inv X cp σ H s) (z : Slp cp cp' s s') (hcp : ∀ p ∈ cp, (p.1 ∈ X.ex ∨ X.s_0.heap.objs.size ≤ p.1) ∧ (∀ x c, X.env.cells.lookup x = some c → c ≠ p.1) ∧ ∀ q ∈ X.pn, q.1 ≠ p.1) : Inv X cp' σ H s' := by
  have I0 : Inv X [] σ H s := I.pins_of fun p hp => absurd hp (by simp)
  have nt : ∀ b u, H b = some u → b ∉ cp.map (·.1) := fun b u q hb => by
    obtain ⟨p, hp, rfl⟩ := List.mem_map.1 hb
    have := (I.pin p (List.mem_append_right _ hp)).2.1
    rw [q] at this; cases this
  obtain ⟨z1, z2, z3, z4, z5⟩ := z
  obtain ⟨hh, g, d, t, o⟩ := s'
  have ho : o = s.os := z1
  subst ho
  have mem : ∀ b ∈ cp.map (·.1), ∃ o', hh.get? b = some o' := fun b hb => by
    rw [← z4] at hb
    obtain ⟨p, hp, rfl⟩ := List.mem_map.1 hb
    exact ⟨_, (z5 p hp).1⟩
  have J : Inv X [] σ H { s with heap := hh, gens := g, drawn := d, toks := t } := by
    refine I0.step (g' := g) (t' := t) (d' := d) (ch := cp.map (·.1)) (fun b hb => ?_)
      (fun b ob _ _ hc q _ => z3 b ob hc q) (fun b ob _ _ hc q _ => ⟨ob.slots, z3 b ob hc q⟩) (fun _ _ _ _ n => n) (fun b ob hc q => ⟨ob, z3 b ob hc q⟩)
      (fun _ _ q => q) (fun _ _ _ q => q) (fun b ps q => ⟨#[], by rw [q]; simp⟩) (fun m hm => ?_) (fun b u q => ?_) z2
    · obtain ⟨p, hp, rfl⟩ := List.mem_map.1 hb
      obtain ⟨c1, c2, c3⟩ := hcp p hp
      refine ⟨c1, (I.pin p (List.mem_append_right _ hp)).2.2.1, c2, fun q hq => ?_⟩
      rcases List.mem_append.1 hq with hq | hq
      · exact c3 q hq
      · cases hq
    · obtain ⟨ob, es, ep, ho, r⟩ := hm
      refine ⟨ob, es, ep, z3 _ ob (fun hb => ?_) ho, r⟩
      obtain ⟨p, hp, e⟩ := List.mem_map.1 hb
      exact (I.pin p (List.mem_append_right _ hp)).2.2.1 e
    · refine (I0.hok b u q).stay (fun c v hc y => z3 c v ?_ y) (fun _ y => y) fun _ _ y => y
      rcases hc with y | y
      · rw [y]; exact nt b u q
      · exact nt c _ y
  refine J.pins_of fun p hp => ?_
  have hb : p.1 ∈ cp.map (·.1) := by rw [← z4]; exact List.mem_map.2 ⟨p, hp, rfl⟩
  obtain ⟨q, hq, e⟩ := List.mem_map.1 hb
  obtain ⟨_, a2, a3, a4, _⟩ := I.pin q (List.mem_append_right _ hq)
  rw [e] at a2 a3 a4
  exact ⟨(z5 p hp).1, a2, a3, a4, (z5 p hp).2⟩
end

section
variable {X : Cx} {pins : List (Addr × Obj)} {σ : L2.St} {H : Hp} {s : Shared}
/-- the body's context holds when the generator is made -/
theorem gen_start {A : Around} {scope : Scope} {own : List (PySem.Str × Nat)} {fp : List Addr} {code it : Value} {h5 : Heap} {gs : Array GenState} {tk : Nat} {a : Addr} {go : Obj} (I : Inv X pins σ H s) (hd : A.handled = none) (hfr : A.frames = X.A.frames) (ok : BlkOk X.N X.env.scope scope own) (hN : X.N.Nodup) (nocell : ∀ y ∈ scope.names, y.2 ≠ .cell)
    (hfp : ∀ b ∈ fp, FpOk X pins H b ∧ b < s.heap.objs.size) (hns : h5.Ns s.heap.objs.size (fun y => if y = ".0" then some it else none)) (kp : ∀ b o, s.heap.get? b = some o → h5.get? b = some o) (hg : AllBare gs) (ha : s.heap.objs.size < a) (hgo : h5.get? a = some go) (hgd : ∀ v, go.data ≠ .cell v) :
    Inv (genCx X A s H (genEnv scope (cloFrom X.env.cells scope.names []) s.heap.objs.size code builtinsNs X.env) fp [(a, go)]) [] (wipe σ (own.map (·.2))) H { s with gens := gs, toks := tk, heap := h5 } := by
  have hfree : ∀ y ∈ scope.names, y.2 = .free → ∃ c, X.env.cells.lookup y.1 = some c := fun y hy e => by
    rcases ok.free y hy e with k | k
    · exact I.ok.has _ (.inl k)
    · exact I.ok.has _ (.inr k)
  have cm : ∀ {y c}, (cloFrom X.env.cells scope.names []).lookup y = some c → X.env.cells.lookup y = some c ∧ c < s.heap.objs.size := fun {y c} e => by
    rcases cloFrom_mem (PySem.mem_of_lookup e) with hm | ⟨h1, rfl⟩
    · cases hm
    · obtain ⟨c, hc⟩ := hfree _ h1 rfl
      rw [hc]
      obtain ⟨w, z⟩ := I.cell _ _ hc
      exact ⟨rfl, z.lt⟩
  have look : ∀ {y}, scope.names.lookup y = some .free → ∃ c, (cloFrom X.env.cells scope.names []).lookup y = some c := fun {y} hl => by
    have hy : (y, NameKind.free) ∈ scope.names := PySem.mem_of_lookup hl
    exact mem_lookup (cloFrom_has (cells := X.env.cells) (acc := []) hy)
  have fr : X.A.frames = some X.stack := I.ok.frames
  refine ⟨⟨I.ok.mod, ok.kind, I.ok.glob, rfl, Nat.le_refl _, fun y z c e1 e2 => I.ok.inj y z c (cm e1).1 (cm e2).1, fun y hy => ?_, fun y c z _ => (by cases z), fun _ => hd, ?_, .inr ⟨rfl, ?_⟩, fun b hb => ⟨?_, fun y c e z => ?_⟩, I.bs, Nat.le_trans I.ok.bsz I.sz, fun b o e hb => ?_, fun b hb z => ?_, I.stack, I.stkFree⟩,
    rfl, hg, Un.kept kp, ⟨_, hns, fun i y v e1 e2 e3 => ?_⟩, fun y c e => ?_, I.hok.fresh (Nat.le_refl _), fun y c e => ?_, fun p hp => ?_, I.hok.kept kp, by rw [wipe_length]; exact I.len⟩
  · rcases hy with hy | hy
    · exact absurd rfl (nocell _ (PySem.mem_of_lookup hy))
    · exact look hy
  · exact Around.frames_deeper (hfr.trans fr)
  · show (genEnv _ _ _ _ _ _).frame = _
    rfl
  · exact Nat.ne_of_lt (hfp b hb).2
  · exact (hfp b hb).1.2.2.2.2.1 y c (cm e).1 z
  · rcases (hfp b hb).1.2.2.2.1 with z | z
    · exact I.ok.noex b o e z
    · exact absurd (Nat.lt_of_lt_of_le (Heap.lt_size e) (Nat.le_trans I.ok.bsz z)) (Nat.lt_irrefl _)
  · rcases List.mem_cons.mp (I.stkSub b z) with z | z
    · exact (hfp b hb).1.2.1 z
    · exact (hfp b hb).1.2.2.1 z
  · obtain ⟨e2, hne⟩ := wipe_some e2
    have e3 : Vis scope y := e3
    have no : ¬ (scope.names.lookup y = some .local ∨ scope.names.lookup y = some .cell) := fun hh => by
      have hm : ∃ k, (y, k) ∈ scope.names ∧ (k = .local ∨ k = .cell) := by
        rcases hh with hh | hh
        · exact ⟨_, PySem.mem_of_lookup hh, .inl rfl⟩
        · exact ⟨_, PySem.mem_of_lookup hh, .inr rfl⟩
      obtain ⟨k, hm, hk⟩ := hm
      rcases ok.own _ hm hk with e' | e'
      · obtain ⟨p, hp, hpy⟩ := List.mem_map.mp e'
        have e4 := ok.ix p hp
        have : p.1 = y := hpy
        rw [this] at e4
        exact hne (List.mem_map.mpr ⟨p, hp, nodup_ix hN e4 e1⟩)
      · exact e' (List.mem_of_getElem? e1)
    have hf : scope.names.lookup y = some .free := by
      rcases e3 with e3 | e3 | e3
      · exact absurd (.inl e3) no
      · exact absurd (.inr e3) no
      · exact e3
    obtain ⟨m, hn, hl⟩ := I.loc
    have fk := ok.free _ (PySem.mem_of_lookup hf) rfl
    obtain ⟨w, r, q⟩ := hl i y v e1 e2 (fk.elim (fun k => .inr (.inl k)) (fun k => .inr (.inr k)))
    refine ⟨w, r, .inr ⟨.inr hf, ?_⟩⟩
    obtain ⟨c, h1⟩ := look hf
    rcases q with ⟨k, _⟩ | ⟨_, c', e', z⟩
    · have k : X.env.scope.names.lookup y = some .local := k
      rcases fk with k' | k' <;> rw [show X.env.scope.names.lookup y = _ from k'] at k <;> cases k
    · rw [(cm h1).1] at e'; cases e'
      exact ⟨c, h1, z.keeps kp⟩
  · obtain ⟨w, z⟩ := I.cell y c (cm e).1
    exact ⟨w, z.keeps kp⟩
  · exact I.freeC y c (cm e).1
  · have e : p = (a, go) := by simpa using hp
    subst e
    refine ⟨hgo, I.hok.fresh (Nat.le_of_lt ha), Nat.ne_of_gt ha, fun z => ?_, hgd⟩
    rcases List.mem_cons.mp (I.stkSub a z) with z | z
    · have := I.lt; rw [z] at ha; exact absurd (Nat.lt_trans ha this) (Nat.lt_irrefl _)
    · exact I.nofs (Nat.le_of_lt ha) z
end
end VS
end

section
set_option autoImplicit false
set_option linter.all false
set_option maxRecDepth 20000
/-! VG2: the loop of a generator expression. -/
namespace VS
open PySem PySem.Spec PyProof.Rows L2 GenW

/-- the turns of a generator expression: W its invariant by the turn and a measure, ys what is out, We at the end, Wy when y is handed out, Re: it is asked on -/
def GTurn (J : It) (g : TG) (tt : TT) (te : TE) (vs : List Nat) (σ : L2.St) (We : List V → Hp → Prop) (Wy : List V → V → Hp → Prop) (Re : V → Prop) (W : Nat → Nat → List V → Hp → Prop) : Prop :=
  ∀ i m ys H, W i m ys H → (J.stop i H ∧ We ys H) ∨ (J.go i H ∧ ∃ Nx : List V → Hp → Prop, (∀ ys' H', Nx ys' H' → ∃ m', m' < m ∧ W (i + 1) m' ys' H') ∧
    ∀ x H', J.yld i H x H' → g x (wipe σ vs) H' fun σ2 H2 => wipe σ2 vs = wipe σ vs ∧ tt σ2 H2 fun b H3 => if b = true then te σ2 H3 fun y H4 => Wy ys y H4 ∧ (Re y → Nx (ys ++ [y]) H4) else Nx ys H3)

section
variable {X : Cx} {A : Around} {tg elt iter : Expr} {ifs : List Expr} {scope : Scope} {pos : Pos} {J : It} {fp as : List Addr} {it : Addr} {tn : Nat → Heap → Prop} {g : TG} {tt : TT} {te : TE} {vs : List Nat} {σ : L2.St}
  {CI : CIv} {We : List V → Hp → Prop} {Wy : List V → V → Hp → Prop} {Re : V → Prop} {W : Nat → Nat → List V → Hp → Prop}
/-- what stands fast of the body's context -/
structure GFix (X : Cx) (A : Around) (tg : Expr) (J : It) (fp as : List Addr) (it : Addr) (tn : Nat → Heap → Prop) (CI : CIv) : Prop where
  hA : X.A = A.deeper X.env
  calm : X.calm = true
  turn : Turn X.prog X.w X.K tg J fp it tn
  ex : ∀ b ∈ fp, b ∈ X.ex
  pn : ∀ p ∈ X.pn, p.1 ∉ fp
  as_ : ∀ a ∈ as, a ∉ fp ∧ X.s_0.heap.objs.size ≤ a ∧ (∀ x c, X.env.cells.lookup x = some c → c ≠ a) ∧ ∀ q ∈ X.pn, q.1 ≠ a
  ci : ∀ ys cp, CI ys cp → cp.map (·.1) = as
  xe : X.xe = fun _ _ => False
  co : X.env.scope.isCoroutine = false
theorem seg_gen (G : GFix X A tg J fp as it tn CI) (pg : PG X tg g) (pt : PTs X ifs tt) (pe : PE X elt te) (turn : GTurn J g tt te vs σ We Wy Re W) :
    ∀ (m n i : Nat) (ys : List V) (H : Hp) (cp : List (Addr × Obj)) (s₀ s : Shared), m < n → W i m ys H → CI ys cp → (∀ p ∈ cp, s₀.heap.get? p.1 = some p.2) → Inv X cp (wipe σ vs) H s → tn i s.heap → (∀ b ∈ fp, H b = none) →
      Seg (model X.prog X.w) A (GpR X CI We) (GpY X CI Wy Re) n s₀ (.compLoop (.GeneratorExp elt [⟨tg, iter, ifs, 0⟩] scope pos) 0 (.ref it) .none X.env)
        ((model X.prog X.w).den (.compLoop (.GeneratorExp elt [⟨tg, iter, ifs, 0⟩] scope pos) 0 (.ref it) .none X.env)) [] s := by
  have T := G.turn
  have ov : A.over (.compLoop (.GeneratorExp elt [⟨tg, iter, ifs, 0⟩] scope pos) 0 (.ref it) .none X.env) [] = X.A := by rw [over_gl, G.hA]
  have hxe := G.xe
  intro m
  induction m using Nat.strongRecOn with
  | ind m ih =>
    intro n i ys H cp s₀ s hmn w ci c0 I st nf
    have stat : ∀ {σ' : L2.St} {H' : Hp} {s' : Shared}, Inv X cp σ' H' s' → (∀ b ∈ fp, H' b = none) → ∀ b ∈ fp, FpOk X cp H' b := fun {σ' H' s'} I' hn b hb => by
      refine ⟨hn b hb, (I'.ok.exf b (G.ex b hb)).1, I'.ok.exfs b (G.ex b hb), .inl (G.ex b hb), fun x c e => (I'.ok.exf b (G.ex b hb)).2 x c e, fun p hp z => ?_⟩
      rcases List.mem_append.1 hp with hp | hp
      · exact G.pn p hp (z ▸ hb)
      · have ha : p.1 ∈ as := by rw [← G.ci ys cp ci]; exact List.mem_map.2 ⟨p, hp, rfl⟩
        exact (G.as_ _ ha).1 (z ▸ hb)
    show Seg _ A _ _ _ s₀ _ ((compTurn (.GeneratorExp elt [⟨tg, iter, ifs, 0⟩] scope pos) 0 (.ref it) .none X.env).onRaise (leaving X.env)) [] s
    rw [compTurn_gen, Sem.onRaise_eq_wrap]
    refine seg_bind_wrap (wpAny_standAt ?_)
    rcases turn i m ys H w with ⟨stop, qe⟩ | ⟨go, Nx, hNx, step⟩
    · refine seg_bind_wrap ?_
      rw [ov]
      refine wpAny_mono (T.done X rfl rfl rfl G.calm i cp s _ H (fun _ _ => False) I (stat I nf) st stop) (fun r s1 ⟨hr, I1⟩ => ?_) fun _ _ z => z.elim
      subst hr
      exact seg_end (.ok .next) ⟨rfl, ys, _, H, cp, ci, c0, I1, qe⟩
    · refine seg_bind_wrap ?_
      rw [ov]
      refine wpAny_mono (T.item X rfl rfl rfl G.calm i cp s _ H (fun _ _ => False) I (stat I nf) st go) (fun r s1 ⟨u, hr, h1⟩ => ?_) fun _ _ z => z.elim
      subst hr
      refine seg_bind_wrap ?_
      rw [ov]
      refine wpAny_mono h1 (fun _ s2 ⟨x, H2, I2, r2, y2, st2, n2⟩ => ?_) fun _ _ z => z.elim
      have I2p := I2.pinned (stat I2 n2) (T.obj _ _ st2)
      refine seg_bind_wrap ?_
      rw [ov]
      have pgr := pg.run _ s2 _ H2 x u _ I2p r2 (step x H2 y2)
      rw [hxe] at pgr
      refine wpAny_mono pgr (fun _ s3 ⟨σ3, H3, I3, hw3, q3⟩ => ?_) fun _ _ z => z.elim
      refine seg_bind_wrap ?_
      rw [ov]
      have ptr := pt.run _ s3 σ3 H3 _ I3 q3
      rw [hxe] at ptr
      refine wpAny_mono ptr (fun b s4 ⟨H4, I4, q4⟩ => ?_) fun _ _ z => z.elim
      -- behind the turn
      have fin : ∀ {s5 s' : Shared} {H' : Hp} {cp' : List (Addr × Obj)} {ys' : List V} {n' : Nat} {s₁ : Shared}, Inv X (cp ++ pinsAt fp s2.heap) σ3 H' s5 → m < n' + 1 → CI ys' cp' → (∀ p ∈ cp', s₁.heap.get? p.1 = some p.2) → Inv X cp' σ3 H' s' → (∀ b ∈ fp, ∀ o, s5.heap.get? b = some o → s'.heap.get? b = some o) → Nx ys' H' →
          Seg (model X.prog X.w) A (GpR X CI We) (GpY X CI Wy Re) n' s₁ (.compLoop (.GeneratorExp elt [⟨tg, iter, ifs, 0⟩] scope pos) 0 (.ref it) .none X.env)
            ((model X.prog X.w).den (.compLoop (.GeneratorExp elt [⟨tg, iter, ifs, 0⟩] scope pos) 0 (.ref it) .none X.env)) [] s' := fun {s5 s' H' cp' ys' n' s₁} I5 hm ci' c1 I' kp nx => by
        obtain ⟨m', hm', w'⟩ := hNx ys' H' nx
        have pin' : ∀ b ∈ fp, ∀ o, s2.heap.get? b = some o → s5.heap.get? b = some o ∧ H' b = none := fun b hb o e =>
          let z := I5.pin (b, o) (List.mem_append_right _ (List.mem_append_right _ (mem_pinsAt hb e)))
          ⟨z.1, z.2.1⟩
        have hl : (wipe σ vs).length = σ3.length := by rw [← hw3, wipe_length]
        refine ih m' hm' n' (i + 1) ys' H' cp' s₁ s' (by omega) w' ci' c1 (I'.weak hl fun j v e => ?_) (T.keep _ _ _ st2 fun b hb o e => kp b hb o (pin' b hb o e).1) fun b hb => ?_
        · rw [← hw3] at e
          exact (wipe_some e).1
        · obtain ⟨o, e, _⟩ := T.obj _ _ st2 b hb
          exact (pin' b hb o e).2
      cases b with
      | false =>
        simp only [Bool.false_eq_true, if_false] at q4 ⊢
        exact seg_again rfl (fin I4 (by omega) ci c0 I4.unpinned (fun _ _ _ e => e) q4)
      | true =>
        simp only [if_true] at q4 ⊢
        have hy : ∀ v, yieldOut X.env v = yieldValue v := fun v => by simp only [yieldOut, G.co, Bool.false_eq_true, if_false]
        simp only [hy]
        rw [Sem.bind_eq_wrap', Sem.bind_eq_wrap', Sem.wrap_wrap, Sem.wrap_wrap]
        refine seg_wrap ?_
        rw [ov]
        have per := pe.run _ s4 σ3 H4 _ I4 q4
        rw [hxe] at per
        refine wpAny_mono per (fun z s5 ⟨y, H5, I5, r5, wy, nx⟩ => ?_) fun _ _ z => z.elim
        obtain ⟨n, rfl⟩ : ∃ k, n = k + 1 := ⟨n - 1, by omega⟩
        refine seg_at (seg_yield rfl rfl rfl ⟨ys, y, σ3, H5, cp, r5, ci, c0, I5.unpinned, wy, fun s' cp' re ci' z => ?_⟩)
        refine seg_again rfl (fin I5 (by omega) ci' (fun p hp => (z.now p hp).1) (Inv.slp I5.unpinned z fun p hp => ?_) (fun b hb o e => z.keep b o (fun hm => ?_) e) (nx re))
        · have ha : p.1 ∈ as := by rw [← G.ci ys cp ci]; exact List.mem_map.2 ⟨p, hp, rfl⟩
          obtain ⟨a1, a2, a3, a4⟩ := G.as_ _ ha
          exact ⟨.inr a2, a3, a4⟩
        · rw [G.ci ys cp ci] at hm
          exact (G.as_ _ hm).1 hb
end
end VS
end

section
set_option autoImplicit false
set_option linter.all false
set_option maxRecDepth 100000
/-! VG3: who asks a generator expression: any, all, sum, collect. -/
namespace VS
open PySem PySem.Spec PyProof.Rows L2 GenW

variable {X : Cx} {A B : Around} {CI : CIv} {We : List V → Hp → Prop} {Wy : List V → V → Hp → Prop} {Re : V → Prop} {a : Addr} {g : Nat}
/-- it sleeps, or has not begun -/
structure GLive (X : Cx) (A : Around) (CI : CIv) (We : List V → Hp → Prop) (Wy : List V → V → Hp → Prop) (Re : V → Prop) (a : Addr) (g n : Nat) (s : Shared) : Prop where
  lim : s.heap.NoLimit
  gen : s.heap.IsGen a g
  go : ∃ gs, s.gens[g]? = some gs ∧ gs.Goes (model X.prog X.w) A (GpR X CI We) (GpY X CI Wy Re) n (.send .none) (s.setGen g .running)
/-- the generator's object is pinned; the consumer's are young -/
structure GWho (X : Cx) (CI : CIv) (a : Addr) (g : Nat) : Prop where
  pn : ∃ (go : Obj) (nm qn : Value), (a, go) ∈ X.pn ∧ go.cls = .type "generator" ∧ go.data = .fields #[.int g 0, nm, qn] ∧ go.slots = #[]
  as_ : ∀ ys cp, CI ys cp → ∀ p ∈ cp, (p.1 ∈ X.ex ∨ X.s_0.heap.objs.size ≤ p.1) ∧ (∀ x c, X.env.cells.lookup x = some c → c ≠ p.1) ∧ ∀ q ∈ X.pn, q.1 ≠ p.1
theorem isGen_inv {pins : List (Addr × Obj)} {σ : L2.St} {H : Hp} {s : Shared} (w : GWho X CI a g) (I : Inv X pins σ H s) : s.heap.IsGen a g := by
  obtain ⟨go, nm, qn, h1, h2, h3, h4⟩ := w.pn
  exact ⟨go, nm, qn, (I.pin _ (List.mem_append_left _ h1)).1, h2, h3, h4⟩
theorem bare_set {s : Shared} {x : GenState} (h : AllBare s.gens) (hx : x.bare = true) : AllBare (s.setGen g x).gens := allBare_setGen h hx
theorem GLive.next {n : Nat} {s : Shared} {Q : Option Value → Shared → Prop} {E : Value → Shared → Prop} (w : GWho X CI a g) (L : GLive X B.in1 CI We Wy Re a g n s) (hh : B.handled = none) (hroom : B.depth < recursionLimit)
    (hY : ∀ v s1 gs' ys y σ H cp, RelV y v → CI ys cp → (∀ p ∈ cp, s.heap.get? p.1 = some p.2) → Inv X cp σ H s1 → Wy ys y H → AllBare (s1.setGen g gs').gens → (∀ (h2 : Heap) (tk : Nat) cp', Re y → CI (ys ++ [y]) cp' → cp'.map (·.1) = cp.map (·.1) → (∀ b o, b ∉ cp.map (·.1) → s1.heap.get? b = some o → h2.get? b = some o) →
      (∀ p ∈ cp', h2.get? p.1 = some p.2 ∧ ∀ v, p.2.data ≠ .cell v) → ∃ m, n = m + 1 ∧ GLive X B.in1 CI We Wy Re a g m { s1.setGen g gs' with heap := h2, toks := tk }) → Q (some v) (s1.setGen g gs'))
    (hP : ∀ s1 h', GpE X CI We s s1 → (∀ b o, s1.heap.get? b = some o → h'.get? b = some o) → AllBare (s1.setGen g .finished).gens → Q none { s1.setGen g .finished with heap := h' }) :
    wpAny (model X.prog X.w) B (pyNext (.ref a)) Q E s := by
  obtain ⟨lim, gen, gs, hgs, hgo⟩ := L
  have hgl : g < s.gens.size := (Array.getElem?_eq_some_iff.mp hgs).1
  refine wpAny_gsz (n := g + 1) hgl (wpAny_pyNext_genexpQ (P := fun _ s₀ s1 => GpE X CI We s₀ s1) hh lim hroom gen hgs hgo (fun v s1 gs' hb hv => ?_) fun s1 hp h' hk => ?_)
  · intro hsz
    obtain ⟨ys, y, σ, H, cp, r, ci, c0, I, wy, hk⟩ := hv
    have hsz1 : g < s1.gens.size := by
      have q : (s1.setGen g gs').gens.size = s1.gens.size := setGen_size _ _ _
      have hsz' : g + 1 ≤ (s1.setGen g gs').gens.size := hsz
      omega
    have hb1 : AllBare (s1.setGen g gs').gens := allBare_setGen I.bare hb
    refine hY v s1 gs' ys y σ H cp r ci c0 I wy hb1 fun h2 tk cp' re ci' hc kp now => ?_
    have z : Slp cp cp' s1 ({ s1.setGen g gs' with heap := h2, toks := tk } : Shared) := ⟨rfl, hb1, kp, hc, now⟩
    have z2 : Slp cp cp' s1 (({ s1.setGen g gs' with heap := h2, toks := tk } : Shared).setGen g .running) := ⟨rfl, allBare_setGen (s := { s1.setGen g gs' with heap := h2, toks := tk }) hb1 rfl, kp, hc, now⟩
    have I2 : Inv X cp' σ H { s1.setGen g gs' with heap := h2, toks := tk } := Inv.slp I z (w.as_ _ _ ci)
    have k2 := hk _ cp' re ci' z2
    cases n with
    | zero => exact False.elim k2
    | succ m => exact ⟨m, rfl, I2.nolimit, isGen_inv w I2, gs', setGen_at hsz1, k2⟩
  · intro _
    obtain ⟨ys, σ, H, cp, ci, c0, I, we⟩ := id hp
    exact hP s1 h' hp hk (allBare_setGen I.bare rfl)
/-- behind the end -/
theorem GpE.behind {s s1 : Shared} {h' : Heap} {gs : GenState} (w : GWho X CI a g) (h : GpE X CI We s s1) (k : ∀ b o, s1.heap.get? b = some o → h'.get? b = some o) (hb : AllBare (s1.setGen g gs).gens) : GpE X CI We s { s1.setGen g gs with heap := h' } := by
  obtain ⟨ys, σ, H, cp, ci, c0, I, we⟩ := h
  refine ⟨ys, σ, H, cp, ci, c0, Inv.slp (s' := { s1.setGen g gs with heap := h' }) I ⟨rfl, hb, fun b o _ e => k b o e, rfl, fun p hp => ?_⟩ (w.as_ _ _ ci), we⟩
  obtain ⟨q1, _, _, _, q2⟩ := I.pin p (List.mem_append_right _ hp)
  exact ⟨k _ _ q1, q2⟩

/-! ### any, all -/
def CI0 : CIv := fun _ cp => cp = []
theorem gx_any {Qt Qf : Hp → Prop} {R : Result → Shared → Prop} (w : GWho X CI0 a g) (hh : B.handled = none) (hroom : B.depth < recursionLimit) (hWy : ∀ ys y H, Wy ys y H → ∃ b, y = .bl b ∧ (b = true → Qt H)) (hRe : Re (.bl false)) (hWe : ∀ ys H, We ys H → Qf H)
    (hR : ∀ b s' σ H, Inv X [] σ H s' → (b = true → Qt H) → (b = false → Qf H) → R (.ok (.ret (.bool b))) s') : ∀ n s, GLive X B.in1.in1 CI0 We Wy Re a g n s → codeAny (model X.prog X.w) B (.builtin "any.loop" ⟨[.ref a], []⟩) R s := by
  intro n
  induction n using Nat.strongRecOn with
  | ind n ih =>
    intro s L
    refine codeAny_builtin F.entry_any_loop ?_
    rw [Around.under_plainId F.plain_any_loop _]
    show wpAny _ B.in1 (pyNext (.ref a) >>= _) _ _ s
    refine wpAny_bind (GLive.next w L hh hroom (fun v s1 gs' ys y σ H cp r ci c0 I wy hb next => ?_) fun s1 h' he k hb => ?_)
    · obtain ⟨b, rfl, qt⟩ := hWy _ _ _ wy
      obtain rfl : v = .bool b := r
      have ci' : cp = [] := ci
      subst ci'
      refine wpAny_bind (wpAny_holding (wpAny_truthy_bool ?_))
      refine wpAny_bind (wpAny_letGo ?_)
      cases b with
      | false =>
        simp only [Bool.false_eq_true, if_false]
        obtain ⟨m, rfl, L'⟩ := next (s1.setGen g gs').heap s1.toks [] hRe rfl rfl (fun _ _ _ e => e) (by simp)
        exact wpAny_pure ⟨plainId_quiet F.plain_any_loop _, ih m (Nat.lt_succ_self m) _ L'⟩
      | true =>
        simp only [if_true]
        refine wpAny_bind (wpAny_rule (wpAny_pure ?_))
        exact hR true _ σ H (Inv.slp (s' := s1.setGen g gs') I ⟨rfl, hb, fun _ _ _ e => e, rfl, by simp⟩ (by simp)) qt (by simp)
    · obtain ⟨ys, σ, H, cp, ci, c0, I, we⟩ := he.behind w k hb
      have ci' : cp = [] := ci
      subst ci'
      refine wpAny_bind (wpAny_rule (wpAny_pure ?_))
      exact hR false _ σ H I (by simp) fun _ => hWe _ _ we
theorem gx_all {Qt Qf : Hp → Prop} {R : Result → Shared → Prop} (w : GWho X CI0 a g) (hh : B.handled = none) (hroom : B.depth < recursionLimit) (hWy : ∀ ys y H, Wy ys y H → ∃ b, y = .bl b ∧ (b = false → Qf H)) (hRe : Re (.bl true)) (hWe : ∀ ys H, We ys H → Qt H)
    (hR : ∀ b s' σ H, Inv X [] σ H s' → (b = true → Qt H) → (b = false → Qf H) → R (.ok (.ret (.bool b))) s') : ∀ n s, GLive X B.in1.in1 CI0 We Wy Re a g n s → codeAny (model X.prog X.w) B (.builtin "all.loop" ⟨[.ref a], []⟩) R s := by
  intro n
  induction n using Nat.strongRecOn with
  | ind n ih =>
    intro s L
    refine codeAny_builtin F.entry_all_loop ?_
    rw [Around.under_plainId F.plain_all_loop _]
    show wpAny _ B.in1 (pyNext (.ref a) >>= _) _ _ s
    refine wpAny_bind (GLive.next w L hh hroom (fun v s1 gs' ys y σ H cp r ci c0 I wy hb next => ?_) fun s1 h' he k hb => ?_)
    · obtain ⟨b, rfl, qf⟩ := hWy _ _ _ wy
      obtain rfl : v = .bool b := r
      have ci' : cp = [] := ci
      subst ci'
      refine wpAny_bind (wpAny_holding (wpAny_truthy_bool ?_))
      refine wpAny_bind (wpAny_letGo ?_)
      cases b with
      | true =>
        simp only [if_true]
        obtain ⟨m, rfl, L'⟩ := next (s1.setGen g gs').heap s1.toks [] hRe rfl rfl (fun _ _ _ e => e) (by simp)
        exact wpAny_pure ⟨plainId_quiet F.plain_all_loop _, ih m (Nat.lt_succ_self m) _ L'⟩
      | false =>
        simp only [Bool.false_eq_true, if_false]
        refine wpAny_bind (wpAny_rule (wpAny_pure ?_))
        exact hR false _ σ H (Inv.slp (s' := s1.setGen g gs') I ⟨rfl, hb, fun _ _ _ e => e, rfl, by simp⟩ (by simp)) (by simp) qf
    · obtain ⟨ys, σ, H, cp, ci, c0, I, we⟩ := he.behind w k hb
      have ci' : cp = [] := ci
      subst ci'
      refine wpAny_bind (wpAny_rule (wpAny_pure ?_))
      exact hR true _ σ H I (fun _ => hWe _ _ we) (by simp)

/-! ### sum -/
def CISum (S : Addr) : CIv := fun ys cp => ∃ (ns : List Int) (t : Tok) (c : Nat), ys = ns.map V.int ∧ cp = [(S, lstObj #[.int ns.sum t] c)]
theorem sum_snoc (ns : List Int) (i : Int) : (ns ++ [i]).sum = ns.sum + i := by simp
theorem gx_sum {S : Addr} {Qs : Int → Hp → Prop} {R : Result → Shared → Prop} (w : GWho X (CISum S) a g) (hh : B.handled = none) (hroom : B.depth < recursionLimit) (hWy : ∀ ys y H, Wy ys y H → ∃ i, y = .int i) (hRe : ∀ i, Re (.int i)) (hWe : ∀ (ns : List Int) H, We (ns.map V.int) H → Qs ns.sum H)
    (hR : ∀ i t s' σ H cp, Inv X cp σ H s' → cp.map (·.1) = [S] → Qs i H → R (.ok (.ret (.int i t))) s') : ∀ n s st T tT c, (st = 0 ∨ st = 2) → GLive X B.in1.in1 (CISum S) We Wy Re a g n s → s.heap.get? S = some (lstObj #[.int T tT] c) → codeAny (model X.prog X.w) B (.builtin "sum.loop" ⟨[.ref a, .ref S, rawInt st, rawInt 0], []⟩) R s := by
  intro n
  induction n using Nat.strongRecOn with
  | ind n ih =>
    intro s st T tT c hst L hS
    refine codeAny_builtin F.entry_sum_loop ?_
    rw [Around.under_plainId F.plain_sum_loop _]
    show wpAny _ B.in1 (seqItems? (.ref S) >>= _) _ _ s
    refine wpAny_bind (wpAny_seqItems hS rfl ?_)
    show wpAny _ B.in1 (tryCatch (pyNext (.ref a)) _ >>= _) _ _ s
    refine wpAny_bind (wpAny_tryCatch (GLive.next w L hh hroom (fun v s1 gs' ys y σ H cp r ci c0 I wy hb next => ?_) fun s1 h' he k hb => ?_))
    · obtain ⟨i, rfl⟩ := hWy _ _ _ wy
      obtain ⟨t, rfl⟩ : ∃ t, v = .int i t := r
      obtain ⟨ns, t0, c1, rfl, rfl⟩ := ci
      have e0 := c0 _ (List.mem_singleton.2 rfl)
      rw [hS] at e0
      have e1 : #[Value.int T tT] = #[Value.int ns.sum t0] ∧ c = c1 := by
        have z := Option.some.inj e0
        simpa [lstObj] using z
      have eT : T = ns.sum := by
        have z := e1.1
        simp at z
        exact z.1
      subst eT
      have hS1 : (s1.setGen g gs').heap.get? S = some (lstObj #[.int ns.sum t0] c1) := (I.pin _ (List.mem_append_right _ (List.mem_singleton.2 rfl))).1
      have fin : ∀ (h2 : Heap) (tk : Nat) (st' : Int) (t2 : Tok) (c2 : Nat), (st' = 0 ∨ st' = 2) → h2.get? S = some (lstObj #[.int (ns.sum + i) t2] c2) → (∀ b o, b ≠ S → s1.heap.get? b = some o → h2.get? b = some o) →
          codeAny (model X.prog X.w) B (.builtin "sum.loop" ⟨[.ref a, .ref S, rawInt st', rawInt 0], []⟩) R { s1.setGen g gs' with heap := h2, toks := tk } := fun h2 tk st' t2 c2 hst' h2S kp => by
        obtain ⟨m, rfl, L'⟩ := next h2 tk [(S, lstObj #[.int (ns ++ [i]).sum t2] c2)] (hRe i) ⟨ns ++ [i], t2, c2, by simp, rfl⟩ rfl (fun b o hb e => kp b o (by simpa using hb) e) (fun p hp => by
          have e : p = _ := List.mem_singleton.1 hp
          subst e
          exact ⟨by rw [sum_snoc]; exact h2S, fun v z => by cases z⟩)
        exact ih m (Nat.lt_succ_self m) _ st' (ns.sum + i) t2 c2 hst' L' h2S
      have other : ∀ (f : Obj → Obj) (h : Heap), (∀ b o, b ≠ S → s1.heap.get? b = some o → h.get? b = some o) → ∀ b o, b ≠ S → s1.heap.get? b = some o → (h.update S f).get? b = some o := fun f h kp b o hb e => (Heap.get?_update_other _ _ (Ne.symm hb)).trans (kp b o hb e)
      have two : ∀ (s2 : Shared) (sv : Tok), s2.heap = s1.heap → s2.gens = (s1.setGen g gs').gens → s2.os = s1.os → s2.drawn = s1.drawn → wpAny (model X.prog X.w) B.in1 (updateSeq S (fun _ => #[.int (ns.sum + i) sv]) >>= fun _ => letGo [.int ns.sum tT, .int i t] >>= fun _ => updateSeq S (fun _ => #[.int (ns.sum + i) sv]) >>= fun _ => again (.builtin "sum.loop" ⟨[.ref a, .ref S, rawInt 2, rawInt 0], []⟩))
          (fun f s' => match f with | .done v => R (.ok v) s' | .again c' => c'.quiet = true ∧ codeAny (model X.prog X.w) B c' R s') (fun e s' => R (.error e) s') s2 := fun s2 sv e1 e2 e3 e4 => by
        obtain ⟨h2, g2, d2, t2, o2⟩ := s2
        cases e1; cases e2; cases e3; cases e4
        refine wpAny_bind (wpAny_updateSeq hS1 rfl ?_)
        have hS2 := Heap.get?_update_self (Obj.mapSeq fun _ => #[Value.int (ns.sum + i) sv]) hS1 rfl
        refine wpAny_bind (wpAny_letGo ?_)
        refine wpAny_bind (wpAny_updateSeq hS2 rfl (wpAny_pure ⟨plainId_quiet F.plain_sum_loop _, ?_⟩))
        exact fin _ _ 2 sv _ (.inr rfl) (Heap.get?_update_self _ hS2 rfl) (other _ _ (other _ _ fun b o _ e => e))
      rcases hst with rfl | rfl
      · show wpAny _ B.in1 (if (_ : Bool) = true then (mkInt (ns.sum + i) >>= _) else _) _ _ _
        split
        · refine wpAny_bind (wpAny_mkInt ?_)
          show wpAny _ B.in1 (updateSeq S (fun _ => #[.int (ns.sum + i) s1.toks]) >>= _) _ _ _
          refine wpAny_bind (wpAny_updateSeq hS1 rfl (wpAny_pure ⟨plainId_quiet F.plain_sum_loop _, ?_⟩))
          exact fin _ _ 0 s1.toks _ (.inl rfl) (Heap.get?_update_self _ hS1 rfl) (other _ _ fun b o _ e => e)
        · refine wpAny_bind (wpAny_rule ?_)
          refine wpAny_bind (wpAny_attempt (wpAny_holding (wpAny_add_int ?_)))
          exact two _ _ rfl rfl rfl rfl
      · show wpAny _ B.in1 ((holding [Value.int i t] (binaryOp .Add (.int ns.sum tT) (.int i t))).attempt >>= _) _ _ _
        refine wpAny_bind (wpAny_attempt (wpAny_holding (wpAny_add_int ?_)))
        exact two _ _ rfl rfl rfl rfl
    · obtain ⟨ys, σ, H, cp, ci, c0, I, we⟩ := he.behind w k hb
      obtain ⟨ns, t0, c1, rfl, rfl⟩ := ci
      have e0 := c0 _ (List.mem_singleton.2 rfl)
      rw [hS] at e0
      have e1 : #[Value.int T tT] = #[Value.int ns.sum t0] ∧ c = c1 := by
        have z := Option.some.inj e0
        simpa [lstObj] using z
      have eT : T = ns.sum := by
        have z := e1.1
        simp at z
        exact z.1
      subst eT
      exact wpAny_pure (hR _ _ _ σ H _ I rfl (hWe _ _ we))
end VS
end

section
set_option autoImplicit false
set_option linter.all false
set_option maxRecDepth 100000
/-! VG4: a generator expression is made; list.extend of it. -/
namespace VS
open PySem PySem.Spec PyProof.Rows L2 GenW LamX

/-- a generator expression has been made in s4, s5 stands behind it -/
structure GMk (X : Cx) (pins : List (Addr × Obj)) (σ : L2.St) (H : Hp) (tg : Expr) (J : It) (fp : List Addr) (it : Addr) (tn : Nat → Heap → Prop) (elt iter : Expr) (ifs : List Expr) (scope : Scope) (pos : Pos) (s4 : Shared) (code : Value) (a : Addr) (g : Nat) (s5 : Shared) : Prop where
  inv : Inv X pins σ H s4
  turn : Turn X.prog X.w X.K tg J fp it tn
  t0 : tn 0 s4.heap
  fp : ∀ b ∈ fp, FpOk X pins H b ∧ b < s4.heap.objs.size
  old : s4.heap.objs.size < a
  sz : s5.heap.objs.size = a + 1
  kp : ∀ b o, s4.heap.get? b = some o → s5.heap.get? b = some o
  ns : s5.heap.Ns s4.heap.objs.size (fun y => if y = ".0" then some (.ref it) else none)
  os : s5.os = s4.os
  gs : s5.gens = s4.gens.push (.fresh (.compStart (.GeneratorExp elt [⟨tg, iter, ifs, 0⟩] scope pos) 0 (.ref it) .none (genEnv scope (cloFrom X.env.cells scope.names []) s4.heap.objs.size code builtinsNs X.env)))
  ge : g = s4.gens.size
  obj : ∃ nm qn, s5.heap.get? a = some { cls := .type "generator", data := .fields #[.int g 0, nm, qn] }

section
variable {X : Cx} {pins : List (Addr × Obj)} {σ : L2.St} {H : Hp} {s : Shared}
theorem tabs_longer {T : Tbs} {tb : Addr} {nm : PySem.Str} {G : List (Nat × Nat)} {ps : Array Value} {gpos : Pos} {cv : Value} (tt : Tabs T H) (ht : (tb, nm, G) ∈ T) (one : ∀ p ∈ T, p.1 = tb → p.2 = (nm, G)) (hG : inG G gpos = true) (hP : H tb = some (.tbl ps)) :
    Tabs T (upd H tb (.tbl (ps ++ #[rawInt gpos.line, rawInt gpos.col, cv]))) := fun p hp => by
  have hco : ∀ {c q}, H c = some (CodeO c q) → upd H tb (.tbl (ps ++ #[rawInt gpos.line, rawInt gpos.col, cv])) c = some (CodeO c q) := fun {c q} e => by
    rw [upd_ne (fun z => by rw [z, hP] at e; exact codeO_ne ps (Option.some.inj e).symm)]
    exact e
  by_cases z : p.1 = tb
  · obtain ⟨ps0, h1, h2, h3⟩ := tt p hp
    rw [z, hP] at h1
    cases h1
    have e : (ps ++ #[rawInt gpos.line, rawInt gpos.col, cv]).toList = ps.toList ++ [rawInt gpos.line, rawInt gpos.col, cv] := by simp
    rw [z]
    refine ⟨_, upd_same, by rw [e]; exact PySem.TriplesOk_snoc _ _ _ _ h2, fun pos c hc hg => ?_⟩
    rw [e] at hc
    rcases among_end _ h2 hc with w | ⟨_, w1, w2⟩
    · obtain ⟨c0, e1, e2⟩ := h3 pos c w hg
      exact ⟨c0, e1, hco e2⟩
    · exfalso
      rw [one p hp z] at hg
      unfold inG at hg hG
      rw [w1, w2] at hg
      rw [hG] at hg
      cases hg
  · obtain ⟨ps0, h1, h2, h3⟩ := tt p hp
    refine ⟨ps0, by rw [upd_ne z]; exact h1, h2, fun pos c hc hg => ?_⟩
    obtain ⟨c0, e1, e2⟩ := h3 pos c hc hg
    exact ⟨c0, e1, hco e2⟩
/-- it is made -/
theorem gx_make {T : Tbs} {cd tb : Addr} {nm : PySem.Str} {G : List (Nat × Nat)} {tg elt iter : Expr} {ifs : List Expr} {scope : Scope} {gpos : Pos} {wi : TI} {k : Nat} {R : It → Hp → Prop} {Q' : Value → Shared → Prop}
    (hr : Room k X.A) (B : TabB X.base X.mg cd tb) (hcd : X.env.code = .ref cd) (ht : (tb, nm, G) ∈ T) (one : ∀ p ∈ T, p.1 = tb → p.2 = (nm, G)) (hG : inG G gpos = true)
    (kind : scope.kind = .function) (co : scope.isCoroutine = false) (nocell : ∀ y ∈ scope.names, y.2 ≠ .cell) (dot : scope.names.lookup (".0" : PySem.Str) = some NameKind.local) (free : ∀ y ∈ scope.names, y.2 = .free → ∃ c, X.env.cells.lookup y.1 = some c)
    (hi : PI X tg iter wi) (hs : ∀ v, genFold iter X.env v = pure v) (I : Inv X pins σ H s) (h : wi σ H fun J H1 => Tabs T H1 ∧ ∀ H2, ExtD H1 H2 → Tabs T H2 → R J H2)
    (hQ : ∀ J H2 fp it tn s4 code a g s5, R J H2 → GMk X pins σ H2 tg J fp it tn elt iter ifs scope gpos s4 code a g s5 → Q' (.ref a) s5) :
    wpAny (model X.prog X.w) X.A (eval (.GeneratorExp elt [⟨tg, iter, ifs, 0⟩] scope gpos) X.env) Q' X.xe s := by
  refine wpAny_GeneratorExp_make co (closure_ok free) nocell dot kind (by have := hr.dp; omega) (thn (hi.run pins s σ H _ I h) fun xv s1 hx => thn hx fun itv s2 h2 => ?_) hs
  obtain ⟨it, fp, tn, J, H1, e, I2, Tn, st2, f2, tt, q⟩ := h2
  subst e
  refine ⟨I2.nolimit, ?_⟩
  obtain ⟨ps, hP, hTr, hNm⟩ := tt _ ht
  have hPs : s2.heap.get? tb = some { cls := .none, data := .fields ps } := I2.hok tb _ hP
  have cdh : PySem.W.CodeHd s2.heap cd tb := B.code.keeps I2.bk
  -- behind the code object
  have cont : ∀ (code : Value) (h3 : Heap) (tk : Nat) (H3 : Hp), Inv X pins σ H3 { s2 with heap := h3, toks := tk } → s2.heap.objs.size ≤ h3.objs.size → ExtD H1 H3 → Tabs T H3 → (∀ b ∈ fp, H3 b = none) → (∀ b o, b ≠ tb → s2.heap.get? b = some o → h3.get? b = some o) →
      wpAny (model X.prog X.w) X.A (builtinsFor X.env.globals X.env.builtins) (fun bi s₄ =>
        ∀ h', h'.Ns s₄.heap.objs.size (fun y => if y = ".0" then some (.ref it) else none) → Heap.SameBut s₄.heap.objs.size (s₄.heap.push { cls := .type "frame", data := .dict #[] }) h' →
          Q' (.ref h'.objs.size) { s₄ with
            gens := s₄.gens.push (.fresh (.compStart (.GeneratorExp elt [⟨tg, iter, ifs, 0⟩] scope gpos) 0 (.ref it) .none (genEnv scope (cloFrom X.env.cells scope.names []) s₄.heap.objs.size code bi X.env))),
            toks := s₄.toks + 1 + 1 + 1,
            heap := h'.push { cls := .type "generator", data := .fields #[.int s₄.gens.size 0, .str "<genexpr>" (s₄.toks + 1), .str (X.env.qual ++ "<genexpr>") (s₄.toks + 1 + 1)] } }) X.xe { s2 with heap := h3, toks := tk } := by
    intro code h3 tk H3 I3 hge eD t3 nf kp3
    obtain ⟨bm, ob, e1, e2, e3, e4, e5, e6, e7, e8⟩ := B.bm
    refine wpAny_builtinsFor (m := X.mg) (by rw [I3.ok.glob]; exact I3.mod.glob.keeps I3.bk) e1 e2 (I3.bk _ _ e5) e6 e7 e8 ?_
    intro h' hns' hsb
    have hsz : h'.objs.size = h3.objs.size + 1 := by rw [hsb.1, Heap.size_push]
    have keep' : ∀ b o, h3.get? b = some o → h'.get? b = some o := fun b o e => hsb.extBut b o (Nat.ne_of_lt (Heap.lt_size e)) (Heap.get?_push_of_some _ e)
    have sz : ∀ b ∈ fp, b < s2.heap.objs.size := fun b hb => by
      obtain ⟨o, e, _⟩ := Tn.obj _ _ st2 b hb
      exact Heap.lt_size e
    have ntb : ∀ b ∈ fp, b ≠ tb := fun b hb z => by
      have := (f2 b hb).1
      rw [z, hP] at this; cases this
    refine hQ J H3 fp it tn { s2 with heap := h3, toks := tk } code h'.objs.size s2.gens.size _ (q H3 eD t3) ⟨I3, Tn, Tn.keep _ _ _ st2 fun b hb o e => kp3 b o (ntb b hb) e, fun b hb => ⟨⟨nf b hb, (f2 b hb).2⟩, Nat.lt_of_lt_of_le (sz b hb) hge⟩, ?_, ?_, ?_, ?_, rfl, rfl, rfl, _, _, Heap.get?_push_size _ rfl⟩
    · show h3.objs.size < h'.objs.size
      omega
    · show (h'.push _).objs.size = _
      rw [Heap.size_push]
    · exact fun b o e => Heap.get?_push_of_some _ (keep' b o e)
    · exact hns'.push _
  cases hf : codeAmong gpos ps.toList with
  | none =>
    refine wpAny_genexprCodeX hcd (cdh.code hPs hTr) (cdh.tab hPs) hf fun c' h' tk hx hge hlt hco' _ htab' _ => ?_
    have I3 : Inv X pins σ (upd H1 tb (.tbl (ps ++ #[rawInt gpos.line, rawInt gpos.col, .ref c']))) { s2 with heap := h', toks := tk } :=
      GxR.inv_tab (g' := s2.gens) (d' := s2.drawn) I2 hP (fun b o hb e => hx b o hb e) htab'.2 I2.bare
    refine cont (.ref c') h' tk _ I3 (Nat.le_trans hge (Nat.le_of_lt hlt)) ⟨fun b o e n => ?_, fun b o e => ?_⟩ (tabs_longer tt ht one hG hP) (fun b hb => ?_) (fun b o hb e => hx b o hb e)
    · rw [upd_ne (fun z => n ps (by rw [z, hP] at e; exact (Option.some.inj e).symm))]
      exact e
    · by_cases z : b = tb
      · exact ⟨_, by rw [z]; exact upd_same⟩
      · exact ⟨o, by rw [upd_ne z]; exact e⟩
    · rw [upd_ne (fun z => by have := (f2 b hb).1; rw [z, hP] at this; cases this)]
      exact (f2 b hb).1
  | some cv =>
    refine wpAny_genexprCode_hit hcd (cdh.code hPs hTr) hf ?_
    exact cont cv s2.heap s2.toks H1 I2 (Nat.le_refl _) ⟨ExtN.refl _, fun b o e => ⟨o, e⟩⟩ tt (fun b hb => (f2 b hb).1) fun _ _ _ e => e
end
end VS
end

section
set_option autoImplicit false
set_option linter.all false
set_option maxRecDepth 100000
/-! VG5: from the made generator to its turns. -/
namespace VS
open PySem PySem.Spec PyProof.Rows L2 GenW LamX

section
variable {X : Cx} {pins : List (Addr × Obj)} {σ : L2.St} {H : Hp} {tg elt iter : Expr} {J : It} {fp as : List Addr} {it a : Addr} {tn : Nat → Heap → Prop} {ifs : List Expr} {scope : Scope} {pos : Pos} {s4 s5 s2 : Shared} {code : Value} {g : Nat}
theorem GMk.inv5 (m : GMk X pins σ H tg J fp it tn elt iter ifs scope pos s4 code a g s5) : Inv X pins σ H s5 :=
  m.inv.call' (ch := []) m.os (Un.kept m.kp) (m.inv.hok.kept m.kp) (by rw [m.gs]; exact AllBare.push m.inv.bare rfl) fun b z => by simp at z
/-- the frame's environment -/
abbrev gEnv (X : Cx) (scope : Scope) (s4 : Shared) (code : Value) : Env := genEnv scope (cloFrom X.env.cells scope.names []) s4.heap.objs.size code builtinsNs X.env
abbrev gObj (g : Nat) (nm qn : Value) : Obj := { cls := .type "generator", data := .fields #[.int g 0, nm, qn] }
/-- what the consumer lays is young -/
structure GYoung (s5 : Shared) (as : List Addr) (CI : CIv) : Prop where
  ci : ∀ ys cp, CI ys cp → cp.map (·.1) = as
  yg : ∀ b ∈ as, s5.heap.objs.size ≤ b
theorem GMk.live {A : Around} {own : List (PySem.Str × Nat)} {CI : CIv} {We : List V → Hp → Prop} {Wy : List V → V → Hp → Prop} {Re : V → Prop} {W : Nat → Nat → List V → Hp → Prop} {tG : TG} {tt : TT} {te : TE} {m0 : Nat} {cp0 : List (Addr × Obj)}
    (m : GMk X pins σ H tg J fp it tn elt iter ifs scope pos s4 code a g s5) (hd : A.handled = none) (hfr : A.frames = X.A.frames) (ok : BlkOk X.N X.env.scope scope own) (hN : X.N.Nodup) (nocell : ∀ y ∈ scope.names, y.2 ≠ .cell) (co : scope.isCoroutine = false)
    (pg : ∀ go : Obj, PG (genCx X A s4 H (gEnv X scope s4 code) fp [(a, go)]) tg tG) (pt : ∀ go : Obj, PTs (genCx X A s4 H (gEnv X scope s4 code) fp [(a, go)]) ifs tt) (pe : ∀ go : Obj, PE (genCx X A s4 H (gEnv X scope s4 code) fp [(a, go)]) elt te)
    (turn : GTurn J tG tt te (own.map (·.2)) σ We Wy Re W) (w : W 0 m0 [] H) (y : GYoung s5 as CI) (ci : CI [] cp0)
    (kp2 : ∀ b o, s5.heap.get? b = some o → s2.heap.get? b = some o) (os2 : s2.os = s5.os) (gs2 : s2.gens = s5.gens) (now : ∀ p ∈ cp0, s2.heap.get? p.1 = some p.2 ∧ ∀ v, p.2.data ≠ .cell v) :
    ∃ go : Obj, GWho (genCx X A s4 H (gEnv X scope s4 code) fp [(a, go)]) CI a g ∧ GLive (genCx X A s4 H (gEnv X scope s4 code) fp [(a, go)]) A CI We Wy Re a g (m0 + 1) s2 := by
  obtain ⟨nm, qn, eo⟩ := m.obj
  have cellLt : ∀ x c, (cloFrom X.env.cells scope.names []).lookup x = some c → c < s4.heap.objs.size := fun x c e => by
    rcases cloFrom_mem (PySem.mem_of_lookup e) with hm | ⟨h1, rfl⟩
    · cases hm
    · have k : ∃ c, X.env.cells.lookup x = some c := by
        rcases ok.free _ h1 rfl with k | k
        · exact m.inv.ok.has _ (.inl k)
        · exact m.inv.ok.has _ (.inr k)
      obtain ⟨c, hc⟩ := k
      rw [hc]
      obtain ⟨w, z⟩ := m.inv.cell _ _ hc
      exact z.lt
  have lt5 : s4.heap.objs.size < s5.heap.objs.size := by have := m.old; have := m.sz; omega
  have yng : ∀ b ∈ as, b ∉ fp ∧ s4.heap.objs.size < b ∧ (∀ x c, (cloFrom X.env.cells scope.names []).lookup x = some c → c ≠ b) ∧ a ≠ b := fun b hb => by
    have h1 := y.yg b hb
    have h2 := m.sz
    have h1' : (s5.heap.objs.size : Nat) ≤ b := h1
    refine ⟨fun hf => ?_, Nat.lt_of_lt_of_le lt5 h1, fun x c e z => ?_, fun z => ?_⟩
    · have h3 := (m.fp b hf).2
      exact absurd (Nat.lt_trans (Nat.lt_of_lt_of_le lt5 h1) h3) (Nat.lt_irrefl _)
    · have h3 := cellLt x c e
      rw [z] at h3
      exact absurd (Nat.lt_trans (Nat.lt_of_lt_of_le lt5 h1) h3) (Nat.lt_irrefl _)
    · rw [← z] at h1
      have h4 : (s5.heap.objs.size : Nat) ≤ a := h1
      have h5 : (s5.heap.objs.size : Nat) = a + 1 := h2
      exact absurd (Nat.le_trans (Nat.le_of_eq h5.symm) h4) (Nat.not_succ_le_self _)
  let go : Obj := { cls := .type "generator", data := .fields #[.int g 0, nm, qn] }
  have who : GWho (genCx X A s4 H (gEnv X scope s4 code) fp [(a, go)]) CI a g := ⟨⟨go, nm, qn, List.mem_singleton.2 rfl, rfl, rfl, rfl⟩, fun ys cp c p hp => by
    have hb : p.1 ∈ as := by rw [← y.ci ys cp c]; exact List.mem_map.2 ⟨p, hp, rfl⟩
    obtain ⟨_, h2, h3, h4⟩ := yng _ hb
    refine ⟨.inr (Nat.le_of_lt h2), h3, fun q hq => ?_⟩
    have e : q = (a, go) := List.mem_singleton.1 hq
    rw [e]; exact h4⟩
  have kp : ∀ b o, s4.heap.get? b = some o → s2.heap.get? b = some o := fun b o e => kp2 b o (m.kp b o e)
  have bare2 : AllBare s2.gens := by rw [gs2, m.gs]; exact AllBare.push m.inv.bare rfl
  have I0 : Inv (genCx X A s4 H (gEnv X scope s4 code) fp [(a, go)]) [] (wipe σ (own.map (·.2))) H { s4 with gens := s2.gens, toks := s2.toks, heap := s2.heap } :=
    gen_start (it := .ref it) m.inv hd hfr ok hN nocell m.fp (m.ns.keeps kp2) kp bare2 m.old (kp2 _ _ eo) (fun v z => by cases z)
  have I1 : Inv (genCx X A s4 H (gEnv X scope s4 code) fp [(a, go)]) cp0 (wipe σ (own.map (·.2))) H { s4 with gens := s2.gens, toks := s2.toks, heap := s2.heap } := I0.pins_of fun p hp => by
    have hb : p.1 ∈ as := by rw [← y.ci [] cp0 ci]; exact List.mem_map.2 ⟨p, hp, rfl⟩
    obtain ⟨_, h2, _, _⟩ := yng _ hb
    refine ⟨(now p hp).1, m.inv.hok.fresh (Nat.le_of_lt h2), Nat.ne_of_gt h2, fun z => ?_, (now p hp).2⟩
    rcases List.mem_cons.mp (m.inv.stkSub _ z) with z | z
    · have := m.inv.lt
      rw [← z] at this
      exact absurd (Nat.lt_trans h2 this) (Nat.lt_irrefl _)
    · exact m.inv.nofs (Nat.le_of_lt h2) z
  have at_ : ∀ s' : Shared, s'.os = s2.os → AllBare s'.gens → s'.heap = s2.heap → Inv (genCx X A s4 H (gEnv X scope s4 code) fp [(a, go)]) cp0 (wipe σ (own.map (·.2))) H s' := fun s' o b h =>
    Inv.slp I1 ⟨o.trans (os2.trans m.os), b, fun b o _ e => by rw [h]; exact e, rfl, fun p hp => by rw [h]; exact now p hp⟩ (who.as_ _ _ ci)
  have I2 := at_ s2 rfl bare2 rfl
  have hgs : s2.gens[g]? = some (.fresh (.compStart (.GeneratorExp elt [⟨tg, iter, ifs, 0⟩] scope pos) 0 (.ref it) .none (gEnv X scope s4 code))) := by
    rw [gs2, m.gs, m.ge]; exact Array.getElem?_push_size ..
  refine ⟨go, who, I2.nolimit, isGen_inv who I2, _, hgs, rfl, ?_⟩
  have I3 := at_ (s2.setGen g .running) rfl (allBare_setGen bare2 rfl) rfl
  have st : tn 0 (s2.setGen g .running).heap := m.turn.keep _ _ _ m.t0 fun b _ o e => kp b o e
  have F : GFix (genCx X A s4 H (gEnv X scope s4 code) fp [(a, go)]) A tg J fp as it tn CI := by
    refine ⟨rfl, rfl, m.turn, fun b hb => hb, fun p hp hf => ?_, fun b hb => ?_, y.ci, rfl, co⟩
    · have e : p = (a, go) := List.mem_singleton.1 hp
      rw [e] at hf
      exact absurd (Nat.lt_trans m.old (m.fp a hf).2) (Nat.lt_irrefl _)
    · obtain ⟨h1, h2, h3, h4⟩ := yng b hb
      refine ⟨h1, Nat.le_of_lt h2, h3, fun q hq => ?_⟩
      have e : q = (a, go) := List.mem_singleton.1 hq
      rw [e]; exact h4
  have loop := seg_gen (iter := iter) (scope := scope) (pos := pos) F (pg go) (pt go) (pe go) turn m0 (m0 + 1) 0 [] H cp0 (s2.setGen g .running) (s2.setGen g .running) (Nat.lt_succ_self _) w ci (fun p hp => (now p hp).1) I3 st fun b hb => (m.fp b hb).1.1
  show Seg _ A _ _ _ _ _ ((compStart (.GeneratorExp elt [⟨tg, iter, ifs, 0⟩] scope pos) 0 (.ref it) .none (gEnv X scope s4 code)).onRaise (leaving (gEnv X scope s4 code))) [] _
  unfold compStart
  rw [Sem.onRaise_eq_wrap]
  show Seg _ A _ _ _ _ _ ((ask >>= _).wrap _ _ _ _) [] _
  refine seg_bind_wrap (wpAny_askSetting ?_)
  split
  · exact seg_again rfl loop
  · first
      | exact seg_bind_wrap (wpAny_rule (seg_bind_wrap (wpAny_standAt (seg_bind_wrap (m.turn.self _ 0 _ _ _ st (seg_again rfl loop))))))
      | (refine seg_bind_wrap (wpAny_rule ?_); show Seg _ A _ _ _ _ _ ((standAt iter.pos >>= _).wrap _ _ _ _) [] _; exact seg_bind_wrap (wpAny_standAt (seg_bind_wrap (m.turn.self _ 0 _ _ _ st (seg_again rfl loop)))))
/-- behind the last turn -/
theorem GMk.back {A : Around} {σ' : L2.St} {H' : Hp} {s' : Shared} {go : Obj} {cp : List (Addr × Obj)} (m : GMk X pins σ H tg J fp it tn elt iter ifs scope pos s4 code a g s5) (K : Inv (genCx X A s4 H (gEnv X scope s4 code) fp [(a, go)]) cp σ' H' s') : Inv X pins σ H' s' :=
  m.inv.call' (ch := fp) K.os K.base K.hok K.bare fun b hb => ⟨(m.fp b hb).1.2.2.2.1, (m.fp b hb).1.2.1, (m.fp b hb).1.2.2.2.2.1, (m.fp b hb).1.2.2.2.2.2⟩
end
end VS
end

section
set_option autoImplicit false
set_option linter.all false
set_option maxRecDepth 100000
/-! VG6: collect of a generator expression. -/
namespace VS
open PySem PySem.Spec PyProof.Rows L2 GenW LamX

def CILst (S : Addr) : CIv := fun ys cp => ∃ (acc : Array Value) (c : Nat), cp = [(S, lstObj acc c)] ∧ Vals ys acc.toList
section
variable {X : Cx} {A B : Around} {We : List V → Hp → Prop} {Wy : List V → V → Hp → Prop} {Re : V → Prop} {a : Addr} {g : Nat}
theorem gx_extend {S : Addr} {res : Value} {R : Result → Shared → Prop} (w : GWho X (CILst S) a g) (hh : B.handled = none) (hroom : B.depth < recursionLimit) (hWy : ∀ ys y H, Wy ys y H → ys.length < sizeLine) (hRe : ∀ y, Re y)
    (hR : ∀ s' σ H acc c ys, Inv X [(S, lstObj acc c)] σ H s' → Vals ys acc.toList → We ys H → R (.ok (.ret res)) s') :
    ∀ n s acc c, GLive X B.in1.in1 (CILst S) We Wy Re a g n s → s.heap.get? S = some (lstObj acc c) → codeAny (model X.prog X.w) B (.builtin "list.extend.loop" ⟨[.ref S, .ref a, res], []⟩) R s := by
  intro n
  induction n using Nat.strongRecOn with
  | ind n ih =>
    intro s acc c L hS
    refine codeAny_builtin F.entry_extend_loop ?_
    rw [Around.under_plainId F.plain_extend_loop _]
    show wpAny _ B.in1 (pyNext (.ref a) >>= _) _ _ s
    refine wpAny_bind (GLive.next w L hh hroom (fun v s1 gs' ys y σ H cp r ci c0 I wy hb next => ?_) fun s1 h' he k hb => ?_)
    · obtain ⟨acc1, c1, rfl, vl⟩ := ci
      have hS1 : (s1.setGen g gs').heap.get? S = some (lstObj acc1 c1) := (I.pin _ (List.mem_append_right _ (List.mem_singleton.2 rfl))).1
      have hl := vl.length
      have hz := hWy _ _ _ wy
      have hsz : acc1.size = ys.length := by rw [hl]; simp
      show wpAny _ B.in1 (updateSeq S (·.push v) >>= _) _ _ _
      refine wpAny_bind ?_
      have hS2 := Heap.get?_update_self (Obj.mapSeq (·.push v)) hS1 rfl
      obtain ⟨c2, hc2⟩ : ∃ c2, Obj.mapSeq (·.push v) (lstObj acc1 c1) = lstObj (acc1.push v) c2 := ⟨_, rfl⟩
      rw [hc2] at hS2
      obtain ⟨m, rfl, L'⟩ := next (s1.heap.update S (Obj.mapSeq (·.push v))) s1.toks [(S, lstObj (acc1.push v) c2)] (hRe y) ⟨acc1.push v, c2, rfl, by rw [Array.toList_push]; exact vl.append (.cons r .nil)⟩ rfl
        (fun b o hb e => (Heap.get?_update_other _ _ (fun z : S = b => hb (by simp [z]))).trans e) (fun p hp => by
          have e : p = _ := List.mem_singleton.1 hp
          subst e
          exact ⟨hS2, fun v z => by cases z⟩)
      exact wpAny_updateSeq hS1 rfl (wpAny_pure ⟨plainId_quiet F.plain_extend_loop _, ih m (Nat.lt_succ_self m) _ _ _ L' hS2⟩) (by rw [hsz]; exact Nat.le_of_lt hz) (by show (acc1.push v).size ≤ sizeLine + 1; rw [Array.size_push]; omega)
    · obtain ⟨ys, σ, H, cp, ci, c0, I, we⟩ := he.behind w k hb
      obtain ⟨acc1, c1, rfl, vl⟩ := ci
      exact wpAny_pure (hR _ σ H acc1 c1 ys I vl we)
end
/-- what a generator that was made in s5 gives whoever asks it at A -/
def GAsk (X : Cx) (pins : List (Addr × Obj)) (σ : L2.St) (a : Addr) (g : Nat) (A : Around) (We : List V → Hp → Prop) (Wy : List V → V → Hp → Prop) (Re : V → Prop) (s5 : Shared) : Prop :=
  ∃ n, ∀ (as : List Addr) (CI : CIv) (cp0 : List (Addr × Obj)) (s2 : Shared), GYoung s5 as CI → CI [] cp0 → (∀ b o, s5.heap.get? b = some o → s2.heap.get? b = some o) → s2.os = s5.os → s2.gens = s5.gens → (∀ p ∈ cp0, s2.heap.get? p.1 = some p.2 ∧ ∀ v, p.2.data ≠ .cell v) →
    ∃ X' : Cx, X'.prog = X.prog ∧ X'.w = X.w ∧ GWho X' CI a g ∧ GLive X' A CI We Wy Re a g n s2 ∧ ∀ cp σ' H' s', Inv X' cp σ' H' s' → Inv X pins σ H' s'
section
variable {X : Cx} {A B : Around} {We : List V → Hp → Prop} {Wy : List V → V → Hp → Prop} {Re : V → Prop} {a : Addr} {g : Nat} {pins : List (Addr × Obj)} {σ : L2.St} {s5 : Shared}
theorem collect_gx {Q : List Value → Shared → Prop} {E : Value → Shared → Prop} (G : GAsk X pins σ a g B.in1.in1 We Wy Re s5) (hg : s5.heap.IsGen a g) (ha : a < s5.heap.objs.size) (hh : B.handled = none) (hroom : B.depth < recursionLimit) (hWy : ∀ ys y H, Wy ys y H → ys.length < sizeLine) (hRe : ∀ y, Re y)
    (hQ : ∀ s' (acc : Array Value) ys H', Vals ys acc.toList → Inv X pins σ H' s' → We ys H' → Q acc.toList s') : wpAny (model X.prog X.w) B (collect (.ref a)) Q E s5 := by
  obtain ⟨n, G⟩ := G
  have hSa : s5.heap.objs.size ≠ a := Nat.ne_of_gt ha
  unfold collect
  refine wpAny_bind (wpAny_runValue (codeAny_builtin F.entry_proto_collect ?_))
  rw [Around.under_plainId F.plain_proto_collect _]
  show wpAny _ B.in1 (newList [] >>= fun l => again (.builtin "list.__iadd__" ⟨[l, .ref a], []⟩)) _ _ s5
  refine wpAny_bind (wpAny_newObj_type ?_)
  refine wpAny_pure ⟨plainId_quiet F.plain_list_iadd _, codeAny_builtin F.entry_list_iadd ?_⟩
  rw [Around.under_plainId F.plain_list_iadd _]
  have gk : ∀ {h : Heap}, (∀ b o, s5.heap.get? b = some o → h.get? b = some o) → h.IsGen a g := fun {h} q => hg.keeps q
  have k1 : ∀ b o, s5.heap.get? b = some o → (s5.heap.push { cls := .type "list", data := .seq ([] : List Value).toArray }).get? b = some o := fun b o e => Heap.get?_push_of_some _ e
  show wpAny _ B.in1 (Builtin.List.listExtendWith (.ref s5.heap.objs.size) (.ref a) (.ref s5.heap.objs.size)) _ _ _
  unfold Builtin.List.listExtendWith
  refine wpAny_bind (wpAny_typeOf (Heap.IsGen.typeIs (s := { s5 with heap := _ }) (gk k1)) ?_)
  have h1 : Builtin.List.listSameRef (.ref s5.heap.objs.size) (.ref a) = false := by simp [Builtin.List.listSameRef, hSa]
  have h2 : (Value.type "generator" == Value.type "list") = false := by decide
  have h3 : (Value.type "generator" == Value.type "tuple") = false := by decide
  simp only [h1, h2, h3, Bool.or_false, Bool.false_eq_true, if_false]
  refine wpAny_bind (wpAny_pyIter_gen (s := { s5 with heap := _ }) (gk k1) ?_)
  refine wpAny_bind (wpAny_holding ?_)
  unfold Builtin.List.listLengthHint
  refine wpAny_bind (wpAny_specialOf (Heap.IsGen.typeIs (s := { s5 with heap := _ }) (gk k1)) F.gen_no_len ?_)
  show wpAny _ B.in1 (specialOf (Value.ref a) (Str.ofString "__length_hint__") >>= _) _ _ _
  refine wpAny_bind (wpAny_specialOf (Heap.IsGen.typeIs (s := { s5 with heap := _ }) (gk k1)) F.gen_no_hint ?_)
  refine wpAny_pure ?_
  show wpAny _ B.in1 (rule "list.extend.makes-room" >>= fun _ => Builtin.List.listTouch (.ref s5.heap.objs.size) >>= fun _ =>
    again (.builtin "list.extend.loop" ⟨[.ref s5.heap.objs.size, .ref a, .ref s5.heap.objs.size], []⟩)) _ _ _
  refine wpAny_bind (wpAny_rule ?_)
  have hS₁ : (s5.heap.push { cls := .type "list", data := .seq ([] : List Value).toArray }).get? s5.heap.objs.size = some { cls := .type "list", data := .seq ([] : List Value).toArray } := Heap.get?_push_size _ rfl
  refine wpAny_bind ?_
  show wpAny _ B.in1 (updateSeq s5.heap.objs.size (·.push .none) >>= fun _ => updateSeq s5.heap.objs.size (·.pop)) _ _ _
  refine wpAny_bind (wpAny_updateSeq hS₁ rfl ?_)
  have hS₂ := Heap.get?_update_self (Obj.mapSeq (·.push Value.none)) hS₁ rfl
  refine wpAny_updateSeq hS₂ rfl ?_
  have hS₃ := Heap.get?_update_self (Obj.mapSeq (·.pop)) hS₂ rfl
  have oth : ∀ b o, s5.heap.get? b = some o →
      (((s5.heap.push { cls := .type "list", data := .seq ([] : List Value).toArray }).update s5.heap.objs.size (Obj.mapSeq (·.push Value.none))).update s5.heap.objs.size (Obj.mapSeq (·.pop))).get? b = some o :=
    fun b o e => by
      have hb : s5.heap.objs.size ≠ b := fun z => absurd (z ▸ Heap.lt_size e) (Nat.lt_irrefl _)
      exact (Heap.get?_update_other _ _ hb).trans ((Heap.get?_update_other _ _ hb).trans (k1 b o e))
  obtain ⟨X', eP, eW, who, L, back⟩ := G [s5.heap.objs.size] (CILst s5.heap.objs.size) [(s5.heap.objs.size, _)] { s5 with heap := _ } ⟨fun ys cp h => by obtain ⟨_, _, rfl, _⟩ := h; rfl, fun b hb => by rw [List.mem_singleton.1 hb]; exact Nat.le_refl _⟩ ⟨#[], _, rfl, .nil⟩ oth rfl rfl (fun p hp => by
    have e : p = _ := List.mem_singleton.1 hp
    rw [e]
    exact ⟨hS₃, fun v z => by cases z⟩)
  have run := gx_extend (X := X') (B := B) (res := .ref s5.heap.objs.size) (R := fun r s' => ∃ σ' H acc c ys, Inv X' [(s5.heap.objs.size, lstObj acc c)] σ' H s' ∧ Vals ys acc.toList ∧ We ys H ∧ r = .ok (.ret (.ref s5.heap.objs.size))) who hh hroom hWy hRe
    (fun s' σ' H acc c ys K vl we => ⟨σ', H, acc, c, ys, K, vl, we, rfl⟩) n _ _ _ L hS₃
  rw [eP, eW] at run
  refine wpAny_pure ⟨plainId_quiet F.plain_extend_loop _, codeAny_mono run fun r s' hr => ?_⟩
  obtain ⟨σ', H, acc, c, ys, K, vl, we, rfl⟩ := hr
  have hS' : s'.heap.get? s5.heap.objs.size = some (lstObj acc c) := (K.pin _ (List.mem_append_right _ (List.mem_singleton.2 rfl))).1
  show wpAny _ B (load s5.heap.objs.size >>= _) _ _ s'
  refine wpAny_bind (wpAny_load hS' ?_)
  exact wpAny_pure (hQ s' acc ys H vl (back _ _ _ _ K) we)
end
end VS
end

section
set_option autoImplicit false
set_option linter.all false
set_option maxRecDepth 100000
/-! VG7: any, all, sum, tuple, sorted of a generator expression: rules. -/
namespace VS
open PySem PySem.Spec PyProof.Rows L2 GenW LamX
open Sem (wp)

/-- where generator expressions may be made -/
def GSite (X : Cx) (T : Tbs) (gpos : Pos) : Prop := ∃ (cd tb : Addr) (nm : PySem.Str) (G : List (Nat × Nat)), TabB X.base X.mg cd tb ∧ X.env.code = .ref cd ∧ (tb, nm, G) ∈ T ∧ (∀ p ∈ T, p.1 = tb → p.2 = (nm, G)) ∧ inG G gpos = true
/-- the parts of a generator expression -/
structure GBody (X : Cx) (k : Nat) (tg elt iter : Expr) (ifs : List Expr) (scope : Scope) (own : List (PySem.Str × Nat)) (wi : TI) (tG : TG) (tt : TT) (te : TE) : Prop where
  ok : BlkOk X.N X.env.scope scope own
  hN : X.N.Nodup
  nocell : ∀ y ∈ scope.names, y.2 ≠ .cell
  co : scope.isCoroutine = false
  dot : scope.names.lookup (".0" : PySem.Str) = some NameKind.local
  hi : PI X tg iter wi
  hs : ∀ v, genFold iter X.env v = pure v
  pg : ∀ (A : Around) (s4 : Shared) (H : Hp) (code : Value) (fp : List Addr) (pn : List (Addr × Obj)), Room k (A.deeper (gEnv X scope s4 code)) → PG (genCx X A s4 H (gEnv X scope s4 code) fp pn) tg tG
  pt : ∀ (A : Around) (s4 : Shared) (H : Hp) (code : Value) (fp : List Addr) (pn : List (Addr × Obj)), Room k (A.deeper (gEnv X scope s4 code)) → PTs (genCx X A s4 H (gEnv X scope s4 code) fp pn) ifs tt
  pe : ∀ (A : Around) (s4 : Shared) (H : Hp) (code : Value) (fp : List Addr) (pn : List (Addr × Obj)), Room k (A.deeper (gEnv X scope s4 code)) → PE (genCx X A s4 H (gEnv X scope s4 code) fp pn) elt te
/-- the reading: K is what the consumer asks -/
def tGx (T : Tbs) (wi : TI) (K : It → L2.St → Hp → VK → Prop) : TE := fun σ H Q => wi σ H fun J H1 => Tabs T H1 ∧ ∀ H2, ExtD H1 H2 → Tabs T H2 → K J σ H2 Q
/-- asked at any place -/
def GAsks (X : Cx) (k : Nat) (pins : List (Addr × Obj)) (σ : L2.St) (a : Addr) (g : Nat) (vs : List Nat) (tG : TG) (tt : TT) (te : TE) (J : It) (H : Hp) (s5 : Shared) : Prop :=
  ∀ (A : Around) (We : List V → Hp → Prop) (Wy : List V → V → Hp → Prop) (Re : V → Prop) (W : Nat → Nat → List V → Hp → Prop) (m0 : Nat), (∀ env, Room k (A.deeper env)) → A.frames = X.A.frames → GTurn J tG tt te vs σ We Wy Re W → W 0 m0 [] H → GAsk X pins σ a g A We Wy Re s5
theorem room2 {k : Nat} {A : Around} (r : Room (k + 1) A) (env : Env) : Room k (A.in1.in1.deeper env) :=
  ⟨r.hd, by have := r.dp; show A.depth + 1 + 3 * k + 5 < _; omega, by have := r.un; show A.units + 1 + 1 + 3 + 16 * k + 200 < _; omega⟩
theorem room3 {k : Nat} {A : Around} (r : Room (k + 1) A) (env : Env) : Room k (A.in1.in1.in1.deeper env) :=
  ⟨r.hd, by have := r.dp; show A.depth + 1 + 3 * k + 5 < _; omega, by have := r.un; show A.units + 1 + 1 + 1 + 3 + 16 * k + 200 < _; omega⟩
theorem room4 {k : Nat} {A : Around} (r : Room (k + 1) A) (env : Env) : Room k (A.in1.in1.in1.in1.deeper env) :=
  ⟨r.hd, by have := r.dp; show A.depth + 1 + 3 * k + 5 < _; omega, by have := r.un; show A.units + 1 + 1 + 1 + 1 + 3 + 16 * k + 200 < _; omega⟩
section
variable {X : Cx} {T : Tbs} {k : Nat} {tg elt iter : Expr} {ifs : List Expr} {scope : Scope} {own : List (PySem.Str × Nat)} {wi : TI} {tG : TG} {tt : TT} {te : TE} {p pos gpos : Pos}
theorem gx_core {pins : List (Addr × Obj)} {σ : L2.St} {H : Hp} {s : Shared} {K : It → L2.St → Hp → VK → Prop} {Q : VK} {Q' : Value → Shared → Prop} (hr : Room k X.A) (S : GSite X T gpos) (b : GBody X k tg elt iter ifs scope own wi tG tt te) (I : Inv X pins σ H s) (h : tGx T wi K σ H Q)
    (hQ : ∀ a g J H2 s5, K J σ H2 Q → s5.heap.IsGen a g → a < s5.heap.objs.size → Inv X pins σ H2 s5 → GAsks X k pins σ a g (own.map (·.2)) tG tt te J H2 s5 → Q' (.ref a) s5) :
    wpAny (model X.prog X.w) X.A (eval (.GeneratorExp elt [⟨tg, iter, ifs, 0⟩] scope gpos) X.env) Q' X.xe s := by
  obtain ⟨cd, tb, nm, G, B, hcd, ht, one, hG⟩ := S
  have hfree : ∀ y ∈ scope.names, y.2 = .free → ∃ c, X.env.cells.lookup y.1 = some c := fun y hy e => by
    rcases b.ok.free y hy e with k | k
    · exact I.ok.has _ (.inl k)
    · exact I.ok.has _ (.inr k)
  refine gx_make hr B hcd ht one hG b.ok.kind b.co b.nocell b.dot hfree b.hi b.hs I h fun J H2 fp it tn s4 code a g s5 q m => ?_
  obtain ⟨nm, qn, eo⟩ := m.obj
  refine hQ a g J H2 s5 q ⟨_, nm, qn, eo, rfl, rfl, rfl⟩ (by rw [m.sz]; exact Nat.lt_succ_self _) m.inv5 fun A We Wy Re W m0 hA hfr turn w => ⟨m0 + 1, fun as CI cp0 s2 y ci kp2 os2 gs2 now => ?_⟩
  obtain ⟨go, who, L⟩ := m.live (A := A) (hA X.env).hd hfr b.ok b.hN b.nocell b.co (fun go => b.pg A s4 H2 code fp [(a, go)] (hA _)) (fun go => b.pt A s4 H2 code fp [(a, go)] (hA _)) (fun go => b.pe A s4 H2 code fp [(a, go)] (hA _)) turn w y ci kp2 os2 gs2 now
  exact ⟨genCx X A s4 H2 (gEnv X scope s4 code) fp [(a, go)], rfl, rfl, who, L, fun cp σ' H' s' K => m.back K⟩

/-- any: the first that is true ends it -/
def kAny (tG : TG) (tt : TT) (te : TE) (vs : List Nat) : It → L2.St → Hp → VK → Prop := fun J σ H Q => ∃ (We : List V → Hp → Prop) (Wy : List V → V → Hp → Prop) (W : Nat → Nat → List V → Hp → Prop) (m0 : Nat), GTurn J tG tt te vs σ We Wy (fun y => y = .bl false) W ∧ W 0 m0 [] H ∧
  (∀ ys y H, Wy ys y H → ∃ b, y = .bl b ∧ (b = true → Q (.bl true) H)) ∧ ∀ ys H, We ys H → Q (.bl false) H
def kAll (tG : TG) (tt : TT) (te : TE) (vs : List Nat) : It → L2.St → Hp → VK → Prop := fun J σ H Q => ∃ (We : List V → Hp → Prop) (Wy : List V → V → Hp → Prop) (W : Nat → Nat → List V → Hp → Prop) (m0 : Nat), GTurn J tG tt te vs σ We Wy (fun y => y = .bl true) W ∧ W 0 m0 [] H ∧
  (∀ ys y H, Wy ys y H → ∃ b, y = .bl b ∧ (b = false → Q (.bl false) H)) ∧ ∀ ys H, We ys H → Q (.bl true) H
/-- sum: ints -/
def kSum (tG : TG) (tt : TT) (te : TE) (vs : List Nat) : It → L2.St → Hp → VK → Prop := fun J σ H Q => ∃ (We : List V → Hp → Prop) (Wy : List V → V → Hp → Prop) (W : Nat → Nat → List V → Hp → Prop) (m0 : Nat), GTurn J tG tt te vs σ We Wy (fun _ => True) W ∧ W 0 m0 [] H ∧
  (∀ ys y H, Wy ys y H → ∃ i, y = .int i) ∧ ∀ (ns : List Int) H, We (ns.map V.int) H → Q (.int ns.sum) H
/-- all are put into a list -/
def kCol (tG : TG) (tt : TT) (te : TE) (vs : List Nat) (F : List V → Hp → VK → Prop) : It → L2.St → Hp → VK → Prop := fun J σ H Q => ∃ (We : List V → Hp → Prop) (Wy : List V → V → Hp → Prop) (W : Nat → Nat → List V → Hp → Prop) (m0 : Nat), GTurn J tG tt te vs σ We Wy (fun _ => True) W ∧ W 0 m0 [] H ∧
  (∀ ys y H, Wy ys y H → ys.length < sizeLine) ∧ ∀ ys H, We ys H → ys.length ≤ sizeLine ∧ F ys H Q
theorem pe_anyG (hr : Room (k + 1) X.A) (hg : Gl X "any") (hm : X.mg "any" = none) (S : GSite X T gpos) (b : GBody X k tg elt iter ifs scope own wi tG tt te)
    (he : starEach [.GeneratorExp elt [⟨tg, iter, ifs, 0⟩] scope gpos] X.env = (false, eval (.GeneratorExp elt [⟨tg, iter, ifs, 0⟩] scope gpos) X.env) :: starEach [] X.env := by rfl) :
    PE X (.Call (.Name "any" p) [.GeneratorExp elt [⟨tg, iter, ifs, 0⟩] scope gpos] [] pos) (tGx T wi (kAny tG tt te (own.map (·.2)))) := by
  refine ⟨fun pins s σ H Q I h => ?_⟩
  refine wpAny_Call_Name_kw (ld_blt I hg hm boot_any ?_)
  refine PyProof.Rows.callWith_builtin1 ?_ he (by rfl)
  rw [he]
  show wpAny _ _ (spliced ((false, eval (.GeneratorExp elt [⟨tg, iter, ifs, 0⟩] scope gpos) X.env) :: backTo pos (starEach [] X.env))) _ _ s
  refine Calls.spliced_cons (gx_core (hr.mono (by omega)) S b I h fun a g J H2 s5 q ig ha I5 G => ?_)
  refine Calls.spliced_nil ?_
  obtain ⟨We, Wy, W, m0, turn, w, hWy, hWe⟩ := q
  obtain ⟨n, G⟩ := G X.A.in1.in1 We Wy _ W m0 (room2 hr) rfl turn w
  refine call_function_tree F.kind_any F.plain_any F.entry_any (F.args_any1 _) ?_
  unfold Builtin.«any»
  refine wpAny_bind (m := oneArg "any" _) (wpAny_pure ?_)
  refine wpAny_bind (wpAny_pyIter_gen ig ?_)
  obtain ⟨X', eP, eW, who, L, back⟩ := G [] CI0 [] s5 ⟨fun ys cp h => by rw [show cp = [] from h]; rfl, by simp⟩ rfl (fun _ _ e => e) rfl rfl (by simp)
  have run := gx_any (X := X') (B := X.A) (Re := fun y => y = .bl false) (Qt := fun H => Q (.bl true) H) (Qf := fun H => Q (.bl false) H) (R := fun r s' => ∃ b H', r = .ok (.ret (.bool b)) ∧ Inv X pins σ H' s' ∧ Q (.bl b) H') who hr.hd (by have := hr.dp; omega) hWy rfl hWe
    (fun b s' σ' H' K h1 h2 => ⟨b, H', rfl, back _ _ _ _ K, by cases b; exact h2 rfl; exact h1 rfl⟩) n s5 L
  rw [eP, eW] at run
  refine wpAny_pure ⟨plainId_quiet F.plain_any_loop _, codeAny_mono run fun r s' hr' => ?_⟩
  obtain ⟨b, H', rfl, J, q⟩ := hr'
  exact ⟨.bl b, H', J, rfl, q⟩
theorem pe_allG (hr : Room (k + 1) X.A) (hg : Gl X "all") (hm : X.mg "all" = none) (S : GSite X T gpos) (b : GBody X k tg elt iter ifs scope own wi tG tt te)
    (he : starEach [.GeneratorExp elt [⟨tg, iter, ifs, 0⟩] scope gpos] X.env = (false, eval (.GeneratorExp elt [⟨tg, iter, ifs, 0⟩] scope gpos) X.env) :: starEach [] X.env := by rfl) :
    PE X (.Call (.Name "all" p) [.GeneratorExp elt [⟨tg, iter, ifs, 0⟩] scope gpos] [] pos) (tGx T wi (kAll tG tt te (own.map (·.2)))) := by
  refine ⟨fun pins s σ H Q I h => ?_⟩
  refine wpAny_Call_Name_kw (ld_blt I hg hm (show bootBuiltins "all" = some (.builtin "all") by rfl) ?_)
  refine PyProof.Rows.callWith_builtin1 ?_ he (by rfl)
  rw [he]
  show wpAny _ _ (spliced ((false, eval (.GeneratorExp elt [⟨tg, iter, ifs, 0⟩] scope gpos) X.env) :: backTo pos (starEach [] X.env))) _ _ s
  refine Calls.spliced_cons (gx_core (hr.mono (by omega)) S b I h fun a g J H2 s5 q ig ha I5 G => ?_)
  refine Calls.spliced_nil ?_
  obtain ⟨We, Wy, W, m0, turn, w, hWy, hWe⟩ := q
  obtain ⟨n, G⟩ := G X.A.in1.in1 We Wy _ W m0 (room2 hr) rfl turn w
  refine call_function_tree F.kind_all F.plain_all F.entry_all (F.args_all1 _) ?_
  unfold Builtin.«all»
  refine wpAny_bind (m := oneArg "all" _) (wpAny_pure ?_)
  refine wpAny_bind (wpAny_pyIter_gen ig ?_)
  obtain ⟨X', eP, eW, who, L, back⟩ := G [] CI0 [] s5 ⟨fun ys cp h => by rw [show cp = [] from h]; rfl, by simp⟩ rfl (fun _ _ e => e) rfl rfl (by simp)
  have run := gx_all (X := X') (B := X.A) (Re := fun y => y = .bl true) (Qt := fun H => Q (.bl true) H) (Qf := fun H => Q (.bl false) H) (R := fun r s' => ∃ b H', r = .ok (.ret (.bool b)) ∧ Inv X pins σ H' s' ∧ Q (.bl b) H') who hr.hd (by have := hr.dp; omega) hWy rfl hWe
    (fun b s' σ' H' K h1 h2 => ⟨b, H', rfl, back _ _ _ _ K, by cases b; exact h2 rfl; exact h1 rfl⟩) n s5 L
  rw [eP, eW] at run
  refine wpAny_pure ⟨plainId_quiet F.plain_all_loop _, codeAny_mono run fun r s' hr' => ?_⟩
  obtain ⟨b, H', rfl, J, q⟩ := hr'
  exact ⟨.bl b, H', J, rfl, q⟩
theorem pe_sumG (hr : Room (k + 1) X.A) (hg : Gl X "sum") (hm : X.mg "sum" = none) (S : GSite X T gpos) (b : GBody X k tg elt iter ifs scope own wi tG tt te)
    (he : starEach [.GeneratorExp elt [⟨tg, iter, ifs, 0⟩] scope gpos] X.env = (false, eval (.GeneratorExp elt [⟨tg, iter, ifs, 0⟩] scope gpos) X.env) :: starEach [] X.env := by rfl) :
    PE X (.Call (.Name "sum" p) [.GeneratorExp elt [⟨tg, iter, ifs, 0⟩] scope gpos] [] pos) (tGx T wi (kSum tG tt te (own.map (·.2)))) := by
  refine ⟨fun pins s σ H Q I h => ?_⟩
  refine wpAny_Call_Name_kw (ld_blt I hg hm (show bootBuiltins "sum" = some (.builtin "sum") by rfl) ?_)
  refine PyProof.Rows.callWith_builtin1 ?_ he (by rfl)
  rw [he]
  show wpAny _ _ (spliced ((false, eval (.GeneratorExp elt [⟨tg, iter, ifs, 0⟩] scope gpos) X.env) :: backTo pos (starEach [] X.env))) _ _ s
  refine Calls.spliced_cons (gx_core (hr.mono (by omega)) S b I h fun a g J H2 s5 q ig ha I5 G => ?_)
  refine Calls.spliced_nil ?_
  obtain ⟨We, Wy, W, m0, turn, w, hWy, hWe⟩ := q
  obtain ⟨n, G⟩ := G X.A.in1.in1 We Wy _ W m0 (room2 hr) rfl turn w
  refine call_function_tree F.kind_sum F.plain_sum F.entry_sum (F.args_sum1 _) ?_
  unfold Builtin.«sum»
  simp only [List.length_cons, List.length_nil]
  rw [if_neg (by decide)]
  refine wpAny_bind (wpAny_of_eq (show Builtin.Builtins.bindParams "sum" ["start"] 0 { } = pure [none] from rfl) ?_)
  refine wpAny_bind (wpAny_pyIter_gen ig ?_)
  refine wpAny_bind (wpAny_mkInt ?_)
  refine wpAny_bind (wpAny_pure ?_)
  simp only [List.forIn_cons, List.forIn_nil]
  refine wpAny_bind (wpAny_bind (wpAny_bind (wpAny_isInstance (T := "int") (b := false) (typeIs_int _ _ _) PySem.sub_int_str ?_)))
  simp only [Bool.false_eq_true, if_false]
  refine wpAny_pure (wpAny_bind (wpAny_bind (wpAny_isInstance (T := "int") (b := false) (typeIs_int _ _ _) PySem.sub_int_bytes ?_)))
  simp only [Bool.false_eq_true, if_false]
  refine wpAny_pure (wpAny_bind (wpAny_bind (wpAny_isInstance (T := "int") (b := false) (typeIs_int _ _ _) PySem.sub_int_bytearray ?_)))
  simp only [Bool.false_eq_true, if_false]
  refine wpAny_pure (wpAny_pure ?_)
  refine wpAny_bind (wpAny_newObj_type ?_)
  have kp : ∀ b o, s5.heap.get? b = some o → (s5.heap.push (lstObj #[.int 0 s5.toks] 0)).get? b = some o := fun b o e => Heap.get?_push_of_some _ e
  have hS : (s5.heap.push (lstObj #[.int 0 s5.toks] 0)).get? s5.heap.objs.size = some (lstObj #[.int 0 s5.toks] 0) := Heap.get?_push_size _ rfl
  obtain ⟨X', eP, eW, who, L, back⟩ := G [s5.heap.objs.size] (CISum s5.heap.objs.size) [(s5.heap.objs.size, lstObj #[.int 0 s5.toks] 0)] { s5 with heap := s5.heap.push (lstObj #[.int 0 s5.toks] 0), toks := s5.toks + 1 } ⟨fun ys cp h => by obtain ⟨_, _, _, _, rfl⟩ := h; rfl, fun b hb => by rw [List.mem_singleton.1 hb]; exact Nat.le_refl _⟩
    ⟨[], s5.toks, 0, rfl, rfl⟩ kp rfl rfl (fun p hp => by
      have e : p = _ := List.mem_singleton.1 hp
      rw [e]
      exact ⟨hS, fun v z => by cases z⟩)
  have run := gx_sum (X := X') (B := X.A) (Qs := fun i H => Q (.int i) H) (R := fun r s' => ∃ i t H', r = .ok (.ret (.int i t)) ∧ Inv X pins σ H' s' ∧ Q (.int i) H') who hr.hd (by have := hr.dp; omega) hWy (fun _ => trivial) hWe
    (fun i t s' σ' H' cp K _ h1 => ⟨i, t, H', rfl, back _ _ _ _ K, h1⟩) n _ 0 0 s5.toks 0 (.inl rfl) L hS
  rw [eP, eW] at run
  refine wpAny_pure ⟨plainId_quiet F.plain_sum_loop _, codeAny_mono run fun r s' hr' => ?_⟩
  obtain ⟨i, t, H', rfl, J, q⟩ := hr'
  exact ⟨.int i, H', J, ⟨t, rfl⟩, q⟩

/-- the new tuple of what came -/
theorem pe_tupleG (hr : Room (k + 1) X.A) (hg : Gl X "tuple") (hm : X.mg "tuple" = none) (S : GSite X T gpos) (b : GBody X k tg elt iter ifs scope own wi tG tt te)
    (he : starEach [.GeneratorExp elt [⟨tg, iter, ifs, 0⟩] scope gpos] X.env = (false, eval (.GeneratorExp elt [⟨tg, iter, ifs, 0⟩] scope gpos) X.env) :: starEach [] X.env := by rfl) :
    PE X (.Call (.Name "tuple" p) [.GeneratorExp elt [⟨tg, iter, ifs, 0⟩] scope gpos] [] pos) (tGx T wi (kCol tG tt te (own.map (·.2)) fun ys H Q => ∀ p, H p = none → Q (.ref p) (upd H p (.tup ys)))) := by
  refine ⟨fun pins s σ H Q I h => ?_⟩
  refine wpAny_Call_Name_kw (ld_blt I hg hm (show bootBuiltins "tuple" = some (.type "tuple") by rfl) ?_)
  refine PyProof.Rows.callWith_type1 ?_ he (by rfl)
  rw [he]
  show wpAny _ _ (spliced ((false, eval (.GeneratorExp elt [⟨tg, iter, ifs, 0⟩] scope gpos) X.env) :: backTo pos (starEach [] X.env))) _ _ s
  refine Calls.spliced_cons (gx_core (hr.mono (by omega)) S b I h fun a g J H2 s5 q ig ha I5 G => ?_)
  refine Calls.spliced_nil ?_
  obtain ⟨We, Wy, W, m0, turn, w, hWy, hWe⟩ := q
  have GA := G X.A.in1.in1.in1.in1 We Wy _ W m0 (room4 hr) rfl turn w
  refine callType_codes (Q₁ := fun obj s₁ => s₁.TypeIs obj "tuple" ∧ EP X pins σ Q obj s₁) F.called_tuple (F.typeCall_tuple_1 _) F.entry_object_init (codeAny_of_tree ?_) fun obj s₁ h₁ => ?_
  · show wpAny _ X.A.in1.in1 (do checkBuiltinCall "tuple.__new__" ⟨[.type "tuple", .ref a], []⟩; again (.builtin "tuple.__new__" ⟨[.type "tuple", .ref a], []⟩)) _ _ s5
    refine wpAny_bind (wpAny_of_eq (F.newCall_tuple_1 _) (wpAny_pure ⟨plainId_quiet F.plain_tuple_new _, codeAny_builtin F.entry_tuple_new ?_⟩))
    rw [Around.under_plainId F.plain_tuple_new _]
    have hsub := sub_tuple_self
    have hinit := init_tuple_lookup
    have hmh := madeHere_tuple
    have hTI : s5.TypeIs (.ref a) "generator" := ig.typeIs
    wp_walk using wpAny_typeOf hTI, collect_gx GA ig ha hr.hd (by have := hr.dp; show X.A.depth < _; omega) hWy (fun _ => trivial)
    intro s' acc ys H' vl K we
    show wpAny _ _ (Builtin.Tuple.tupleExact acc.toList.toArray >>= fun v => ret v) _ _ _
    obtain ⟨hz, hq⟩ := hWe ys H' we
    have hl := vl.length
    have hsz : acc.size ≤ sizeLine := by
      have : acc.toList.length = acc.size := by simp
      omega
    unfold Builtin.Tuple.tupleExact
    refine wpAny_bind (wpAny_newObj_type ?_ (by show acc.toList.toArray.size ≤ sizeLine; simp only [Array.toArray_toList]; exact hsz))
    refine wpAny_pure ?_
    have e : acc.toList.toArray = acc := by simp
    rw [e]
    refine ⟨⟨_, Heap.get?_push_size _ rfl, rfl⟩, .ref s'.heap.objs.size, upd H' s'.heap.objs.size (.tup ys), K.laid (t' := s'.toks) (fun b o e => Heap.get?_push_of_some _ e) (Nat.le_refl _) ?_, rfl, hq _ (K.hok.fresh (Nat.le_refl _))⟩
    exact ⟨hz, acc.toList, vl, _, Heap.get?_push_size _ rfl, rfl, 0, by simp⟩
  · exact ⟨h₁.1, F.args_object_init_2 obj _, object_init_meets F.called_tuple.init.lookup F.called_tuple.made (by decide) X.prog X.w X.A.in1 _ s₁ ⟨h₁.1, rfl, h₁.2⟩⟩
end
end VS
end

section
set_option autoImplicit false
set_option linter.all false
set_option maxRecDepth 100000
/-! VG8: list.sort of plain data; sorted of a generator expression. -/
namespace VS
open PySem PySem.Spec PyProof.Rows L2 GenW LamX

section
variable {X : Cx} {pins : List (Addr × Obj)} {σ : L2.St} {H : Hp} {s : Shared}
theorem Inv.in1 (I : Inv X pins σ H s) : Inv { X with A := X.A.in1 } pins σ H s :=
  ⟨⟨I.ok.mod, I.ok.kind, I.ok.glob, I.ok.blt, I.ok.above, I.ok.inj, I.ok.has, I.ok.cab, I.ok.hd, I.ok.frames, I.ok.stk, I.ok.exf, I.ok.bs, I.ok.bsz, I.ok.noex, I.ok.exfs, I.ok.funs, I.ok.frf⟩, I.os, I.bare, I.base, I.loc, I.cell, I.free, I.freeC, I.pin, I.hok, I.len⟩
theorem Inv.out1 (I : Inv { X with A := X.A.in1 } pins σ H s) : Inv X pins σ H s :=
  ⟨⟨I.ok.mod, I.ok.kind, I.ok.glob, I.ok.blt, I.ok.above, I.ok.inj, I.ok.has, I.ok.cab, I.ok.hd, I.ok.frames, I.ok.stk, I.ok.exf, I.ok.bs, I.ok.bsz, I.ok.noex, I.ok.exfs, I.ok.funs, I.ok.frf⟩, I.os, I.bare, I.base, I.loc, I.cell, I.free, I.freeC, I.pin, I.hok, I.len⟩
open Classical in
/-- list.sort of pairs of ints, their tuples anybody's -/
theorem mt_sortPT {E : Value → Shared → Prop} {a : Addr} {ys : List V} {ps : List (Int × Int)} {Q : Value → Shared → Prop} (I : Inv X pins σ H s) (ha : H a = some (.lst ys)) (hx : Paired (fun x p => keyV H X.K x p) ys ps)
    (q : ∀ zs s', Paired (fun x p => keyV H X.K x p) zs (sortS ltP2 ps) → Inv X pins σ (upd H a (.lst zs)) s' → Q .none s') : wpAny (model X.prog X.w) X.A (call (.builtin "list.sort") [.ref a]) Q E s := by
  let k : V → Int × Int := fun x => if e : ∃ p, keyV H X.K x p then e.choose else (0, 0)
  have hk : ∀ x p, keyV H X.K x p → k x = p := fun x p hp => by
    have e : ∃ p, keyV H X.K x p := ⟨p, hp⟩
    have hc := e.choose_spec
    have kx : k x = e.choose := dif_pos e
    rw [kx]
    obtain ⟨t, rfl, h1⟩ := hp
    obtain ⟨t', e', h2⟩ := hc
    cases e'
    have z := SqT.inj I h2 h1 (fun x hx => by simp at hx; rcases hx with rfl | rfl <;> exact ⟨_, rfl⟩) (fun x hx => by simp at hx; rcases hx with rfl | rfl <;> exact ⟨_, rfl⟩)
    simp only [List.cons.injEq, V.int.injEq, and_true] at z
    exact Prod.ext z.1 z.2
  have hxk : ∀ x ∈ ys, keyV H X.K x (k x) := fun x hm => by
    obtain ⟨p, _, hp⟩ := Paired.get hx x hm
    rw [hk x p hp]; exact hp
  obtain ⟨hz, its, n, rv, hob⟩ := I.hok a _ ha
  obtain ⟨e1, e2⟩ := refs_back rv fun x m => by
    obtain ⟨t, e, _⟩ := hxk x m
    exact ⟨t, e⟩
  have isP : ∀ v ∈ its, Srt.IsPair s.heap v (k (backV v)).1 (k (backV v)).2 := fun v hv => by
    obtain ⟨t, rfl⟩ := e2 v hv
    have hm : V.ref t ∈ ys := by rw [e1]; exact List.mem_map.mpr ⟨_, hv, rfl⟩
    obtain ⟨t', e, ht⟩ := hxk _ hm
    cases e
    obtain ⟨its2, r2, ⟨o, ho, hc, n, hd⟩, _⟩ := I.tuple ht
    obtain ⟨u1, u2, rfl, ri, rj⟩ := vals2 r2
    obtain ⟨t1, rfl⟩ := ri
    obtain ⟨t2, rfl⟩ := rj
    exact ⟨t, o, t1, t2, n, rfl, ho, hc, hd⟩
  refine wpAny_call_entry PyProof.Rows.slot_list_sort ⟨_, hob, rfl⟩ PyProof.Rows.entry_list_sort
    (SrtO.list_sort_ord (SrtO.swo_lex fun u => k (backV u)) hob (by rw [← rv.length]; exact hz) (fun h2 => SrtO.pairs_sortableO (by omega) isP fun o e => ?_) fun out h1 h2 => ⟨.none, rfl, ?_⟩) (PyProof.Rows.args_list_sort _)
  · have e' : some o = some (seqObj "list" its.toArray n) := e.symm.trans hob
    cases e'
    intro c
    exact absurd (Value.type.inj c) (by decide)
  · have h3 : ∀ u ∈ out, ∃ a, u = Value.ref a := fun u hu => e2 u (h2.perm.mem_iff.mp hu)
    obtain ⟨ep, he'⟩ := PyProof.Rows.sortedHeap_at (vs := its) (out := out.toArray) hob
    have hb : SrtO.Stb (ltP k) (out.map backV) ys := by
      rw [e1]
      exact SrtO.Stb.map (ltP_swo k) backV h2
    have hlen : (out.map backV).length ≤ sizeLine := by
      rw [hb.len]
      exact hz
    refine q (out.map backV) _ ?_ (I.write (e := a) (t' := s.toks) (by rw [ha]; trivial) (.inl rfl) (fun b u hb hu => ?_) ⟨_, he'⟩ ⟨hlen, out, ep, vals_back h3, he'⟩)
    · have pk : ∀ l : List V, (∀ x ∈ l, x ∈ ys) → Paired (fun x p => keyV H X.K x p) l (l.map k) := fun l => by
        induction l with
        | nil => intro _; exact .nil
        | cons x l ih => intro hl; exact .cons (hxk x (hl x List.mem_cons_self)) (ih fun y hy => hl y (List.mem_cons_of_mem _ hy))
      have e3 := sort_pairs hb.perm (SrtO.srtd_map h1)
      have e4 : ys.map k = ps := Paired.map_eq hx hk
      rw [e4] at e3
      rw [← e3]
      exact pk _ fun x hm => hb.perm.mem_iff.1 hm
    · rw [PyProof.Rows.sortedHeap_old hb (Heap.lt_size hu)]; exact hu
/-- list.sort of what the evaluator can sort -/
theorem mt_sort {P : Addr → Prop} {a : Addr} {ds es : List D} {ys : List V} {Q : Value → Shared → Prop} (I : Inv X pins σ H s) (ha : H a = some (.lst ys)) (hr : RpL X.K P H ds ys) (e : sortV ds = some es)
    (q : ∀ zs s', RpL X.K P H es zs → zs.length = ys.length → Inv X pins σ (upd H a (.lst zs)) s' → Q .none s') : wpAny (model X.prog X.w) X.A (call (.builtin "list.sort") [.ref a]) Q X.xe s := by
  rcases sortV_some e with ⟨is, e2, rfl⟩ | ⟨ps, e2, rfl⟩
  · have ev := intsD_rp e2 hr
    subst ev
    refine thn (mt_sortI pins s σ H (.ref a) [] (.ref a) [] (fun v H' => v = .non ∧ ∃ ns', ns'.Perm is ∧ ns'.Pairwise (· ≤ ·) ∧ H' = upd H a (.lst (ns'.map V.int))) I rfl .nil ⟨a, is, rfl, rfl, ha, fun ns' h1 h2 => ⟨rfl, ns', h1, h2, rfl⟩⟩) fun u s' hu => ?_
    obtain ⟨v, H', I', rv, ⟨rfl, ns', h1, h2, rfl⟩⟩ := hu
    obtain rfl : u = Value.none := rv
    rw [← sort_ints h1 h2] at q
    exact q _ s' (rpL_ints _) (by simp [h1.length_eq]) I'
  · have hp := pairsI_rp e2 hr
    refine mt_sortPT I ha hp fun zs s' h1 I' => q zs s' (rpL_keys h1) ?_ I'
    have l1 : ∀ {xs : List V} {ps : List (Int × Int)}, Paired (fun x p => keyV H X.K x p) xs ps → xs.length = ps.length := fun {xs ps} h => by
      induction h with
      | nil => rfl
      | cons _ _ ih => simp [ih]
    rw [l1 h1, l1 hp]
    exact (sortS_perm ps).length_eq
variable {T : Tbs} {k : Nat} {tg elt iter : Expr} {ifs : List Expr} {scope : Scope} {own : List (PySem.Str × Nat)} {wi : TI} {tG : TG} {tt : TT} {te : TE} {p pos gpos : Pos}
/-- the new list, sorted -/
theorem pe_sortedG (hr : Room (k + 1) X.A) (hg : Gl X "sorted") (hm : X.mg "sorted" = none) (S : GSite X T gpos) (b : GBody X k tg elt iter ifs scope own wi tG tt te)
    (he : starEach [.GeneratorExp elt [⟨tg, iter, ifs, 0⟩] scope gpos] X.env = (false, eval (.GeneratorExp elt [⟨tg, iter, ifs, 0⟩] scope gpos) X.env) :: starEach [] X.env := by rfl) :
    PE X (.Call (.Name "sorted" p) [.GeneratorExp elt [⟨tg, iter, ifs, 0⟩] scope gpos] [] pos) (tGx T wi (kCol tG tt te (own.map (·.2)) fun ys H Q => ∃ P ds es, RpL X.K P H ds ys ∧ sortV ds = some es ∧ ∀ zs q, H q = none → RpL X.K (fun b => P b ∧ b ≠ q) (upd H q (.lst zs)) es zs → Q (.ref q) (upd H q (.lst zs)))) := by
  refine ⟨fun pins s σ H Q I h => ?_⟩
  refine wpAny_Call_Name_kw (ld_blt I hg hm (show bootBuiltins "sorted" = some (.builtin "sorted") by rfl) ?_)
  refine PyProof.Rows.callWith_builtin1 ?_ he (by rfl)
  rw [he]
  show wpAny _ _ (spliced ((false, eval (.GeneratorExp elt [⟨tg, iter, ifs, 0⟩] scope gpos) X.env) :: backTo pos (starEach [] X.env))) _ _ s
  refine Calls.spliced_cons (gx_core (hr.mono (by omega)) S b I h fun a g J H2 s5 q ig ha I5 G => ?_)
  refine Calls.spliced_nil ?_
  obtain ⟨We, Wy, W, m0, turn, w, hWy, hWe⟩ := q
  have GA := G X.A.in1.in1.in1 We Wy _ W m0 (room3 hr) rfl turn w
  refine Calls.call_function_entry PyProof.Rows.kind_sorted PyProof.Rows.plain_sorted PyProof.Rows.entry_sorted (PyProof.Rows.args_sorted1 _) ?_
  unfold Builtin.«sorted»
  refine wpAny_bind (m := checkCount "sorted" 1 1 _) (wpAny_pure ?_)
  refine wpAny_bind (collect_gx GA ig ha hr.hd (by have := hr.dp; show X.A.depth < _; omega) hWy (fun _ => trivial) fun s' acc ys H' vl K we => ?_)
  obtain ⟨hz, P, ds, es, hrp, hsv, hq⟩ := hWe ys H' we
  have hl := vl.length
  refine wpAny_bind (wpAny_newList ?_ (by rw [← hl]; exact hz))
  have nq : H' s'.heap.objs.size = none := K.hok.fresh (Nat.le_refl _)
  have I6 : Inv X pins σ (upd H' s'.heap.objs.size (.lst ys)) { s' with heap := s'.heap.push (seqObj "list" acc.toList.toArray 0) } := K.laid (t' := s'.toks) (fun b o e => Heap.get?_push_of_some _ e) (Nat.le_refl _) ⟨hz, acc.toList, 0, vl, Heap.get?_push_size _ rfl⟩
  have kp : Keep P H' (upd H' s'.heap.objs.size (.lst ys)) := fun b u e _ => by rw [upd_ne (ne_of_none e nq)]; exact e
  refine wpAny_bind (wpAny_holding (mt_sort (X := { X with A := X.A.in1 }) (P := fun b => P b ∧ b ≠ s'.heap.objs.size) (Inv.in1 I6) upd_same (RpL.keep kp (fun b ⟨o, e⟩ p => ⟨p, fun z => by rw [z, nq] at e; cases e⟩) _ _ hrp) hsv fun zs s2 hrz hlz I7 => ?_))
  refine wpAny_pure ⟨_, rfl, .ref s'.heap.objs.size, _, Inv.out1 I7, rfl, ?_⟩
  rw [upd_upd]
  refine hq zs _ nq (RpL.keep (fun b u e c => ?_) (fun _ _ p => p) _ _ hrz)
  have hb : b ≠ s'.heap.objs.size := fun z => by
    subst z
    rw [upd_same] at e
    cases e
    rcases c with ⟨⟨_, c⟩, _⟩ | ⟨_, c⟩ | ⟨_, _, c⟩
    · exact c rfl
    · cases c
    · cases c
  rw [upd_ne hb] at e ⊢
  exact e
end
end VS
end

section
set_option autoImplicit false
set_option linter.all false
set_option maxRecDepth 20000
/-! VG9: what the evaluator says of generator expressions is what the rules ask. -/
namespace VS
open PySem PySem.Spec PyProof.Rows L2 LamX

section
variable {C : RC} {X : Cx} {W : WX} {Z : Addr → Prop} {ρ ρ0 ρ1 ρ2 ρ4 ρ6 ρ' ρe : Rho} {σ σ2 : L2.St} {H H1 H2 H4 H' : Hp} {ns ws : List Nat} {a b : Addr} {ds : List VS.D} {J : It} {t : Tg} {mc : Rho → R Bool} {me : Rho → R (Ow × VS.D)}
/-- the turns: Pl tells the evaluator's way, Ye what it says of an item, ReD when it goes on -/
structure GPlan (t : Tg) (mc : Rho → R Bool) (me : Rho → R (Ow × VS.D)) (ds : List VS.D) (ns : List Nat) (Pl : Nat → Rho → List VS.D → Prop) (Ye : List VS.D → VS.D → Rho → Prop) (ReD : VS.D → Prop) : Prop where
  step : ∀ (i : Nat) (h : i < ds.length) (ρi : Rho) (acc : List VS.D), Pl i ρi acc → ∃ ρ4, bindT t ds[i] ρi = some ρ4 ∧ ∃ k ρ5, mc ρ4 = .ok k ρ5 ∧ (k = false → Pl (i + 1) (wipeAll ρ5 ns) acc) ∧
    (k = true → ∃ v ρ6, me ρ5 = .ok v ρ6 ∧ Ye acc v.2 (wipeAll ρ6 ns) ∧ (ReD v.2 → Pl (i + 1) (wipeAll ρ6 ns) (acc ++ [v.2])))
/-- where it stands -/
def GAt (C : RC) (Z : Addr → Prop) (ρ : Rho) (σ : L2.St) (H1 : Hp) (ns : List Nat) (ds : List VS.D) (Pl : Nat → Rho → List VS.D → Prop) (i m : Nat) (ys : List V) (H' : Hp) : Prop :=
  i ≤ ds.length ∧ m = ds.length - i ∧ ∃ ρi acc, LS C Z ρ σ H1 ns ρi H' ∧ RpL C.K (Av Z ρi (wipe σ ns)) H' acc ys ∧ acc.length ≤ i ∧ Pl i ρi acc
def GEnd (C : RC) (Z : Addr → Prop) (ρ : Rho) (σ : L2.St) (H1 : Hp) (ns : List Nat) (ds : List VS.D) (Pl : Nat → Rho → List VS.D → Prop) (ys : List V) (H' : Hp) : Prop :=
  ∃ ρi acc, LS C Z ρ σ H1 ns ρi H' ∧ RpL C.K (Av Z ρi (wipe σ ns)) H' acc ys ∧ acc.length ≤ ds.length ∧ Pl ds.length ρi acc
def GYld (C : RC) (Z : Addr → Prop) (ρ : Rho) (σ : L2.St) (H1 : Hp) (ns : List Nat) (ds : List VS.D) (Ye : List VS.D → VS.D → Rho → Prop) (ys : List V) (y : V) (H' : Hp) : Prop :=
  ∃ ρi acc d, LS C Z ρ σ H1 ns ρi H' ∧ RpL C.K (Av Z ρi (wipe σ ns)) H' acc ys ∧ Rp C.K (Av Z ρi (wipe σ ns)) H' d y ∧ acc.length < ds.length ∧ Ye acc d ρi
theorem LS.keepG {vs : List V} (l : LS C Z ρ σ H ns ρ2 H') (g : Grow H' H2) (p4 : SPost C Z ρ2 (wipe σ ns) H2 ρ4 σ2 H2) (x : XPost C Z ρ4 σ2 H2 ρ6 H4) (we : wipe σ2 ns = wipe σ ns) {acc : List VS.D}
    (q : RpL C.K (Av Z ρ2 (wipe σ ns)) H' acc vs) : RpL C.K (Av Z (wipeAll ρ6 ns) (wipe σ ns)) H4 acc vs := by
  have f : SFr ρ2 (wipe σ ns) H' ρ6 σ2 H4 := ((SFr.exp (.grow g) (.refl _)).trans p4.sfr).trans x.sfr
  refine RpL.keep (l.rel.keep f.fr) (fun b ⟨o, eo⟩ p => ⟨p.1, fun w => ?_⟩) _ _ q
  rw [← we] at w
  rcases f.priv b (wipe_priv w) with w | w
  · exact p.2 w
  · rw [eo] at w; cases w
theorem gturn_of {Pl : Nat → Rho → List VS.D → Prop} {Ye : List VS.D → VS.D → Rho → Prop} {ReD : VS.D → Prop} {Re : V → Prop} (P : GPlan t mc me ds ns Pl Ye ReD) (hns : namesT t = ns) (gi : GIt C Z ρ σ H1 J ds)
    (hre' : ∀ acc d y ρ' H4, Ye acc d ρ' → Rp C.K (Av Z ρ' (wipe σ ns)) H4 d y → Re y → ReD d) :
    GTurn J (gT C (namesT t) (bindT t)) (tT C (fun _ _ _ _ => False) mc) (tX C (fun _ _ _ _ => False) me (GE C)) ns σ (GEnd C Z ρ σ H1 ns ds Pl) (GYld C Z ρ σ H1 ns ds Ye) Re (GAt C Z ρ σ H1 ns ds Pl) := by
  subst hns
  rintro i m ys H' ⟨hi, rfl, ρi, acc, l, q, ha, hp⟩
  obtain ⟨gg, gs⟩ := gi Z ρi (wipe σ (namesT t)) H' (.refl _ _) l.sfr l.rel
  by_cases hlt : i < ds.length
  · refine .inr ?_
    have ed : ds[i]? = some ds[i] := List.getElem?_eq_getElem hlt
    obtain ⟨go, gy⟩ := gg i _ ed
    obtain ⟨ρ4, eb, k, ρ5, ec, h0, h1⟩ := P.step i hlt ρi acc hp
    refine ⟨go, fun ys' H2 => GAt C Z ρ σ H1 (namesT t) ds Pl (i + 1) (ds.length - (i + 1)) ys' H2, fun ys' H2 w => ⟨_, by omega, w⟩, fun x H2 y => ?_⟩
    obtain ⟨gr, rp⟩ := gy x H2 y
    refine ⟨Z, ρi, ds[i], ρ4, l.rel.grow gr, rp_or l.rel gr rp, eb, fun σ2 p4 hne => ?_⟩
    have we := (l.turn gr p4 hne (XPost.start p4.rel).three).1
    refine ⟨we, Z, ρ4, p4.rel, ?_⟩
    rw [ec]
    intro H3 x3
    cases k with
    | false =>
      rw [if_neg (by decide)]
      obtain ⟨_, l'⟩ := l.turn gr p4 hne x3.three
      exact ⟨hlt, rfl, wipeAll ρ5 (namesT t), acc, l', l.keepG gr p4 x3 we q, Nat.le_succ_of_le ha, h0 rfl⟩
    | true =>
      rw [if_pos rfl]
      obtain ⟨v, ρ6, ee, hy, hn⟩ := h1 rfl
      refine ⟨Z, ρ5, x3.rel, ?_⟩
      rw [ee]
      intro y H4 pe
      have x4 : XPost C Z ρ4 σ2 H2 ρ6 H4 := (x3.mid.trans (pe.x x3.rel).mid).fin
      have vv := pe.val x3.rel
      obtain ⟨_, l'⟩ := l.turn gr p4 hne x4.three
      have ql := l.keepG gr p4 x4 we q
      have qy : Rp C.K (Av Z (wipeAll ρ6 (namesT t)) (wipe σ (namesT t))) H4 v.2 y := Rp.keep (fun _ _ e _ => e) (fun b _ u => ⟨u.1, fun w => u.2 (by rw [← we] at w; exact wipe_priv w)⟩) _ _ vv.2
      exact ⟨⟨wipeAll ρ6 (namesT t), acc, v.2, l', ql, qy, by omega, hy⟩, fun re => ⟨hlt, rfl, wipeAll ρ6 (namesT t), acc ++ [v.2], l', ql.append (RpL.cons qy RpL.nil), by simp; omega, hn (hre' _ _ _ _ _ hy qy re)⟩⟩
  · have e1 : i = ds.length := by omega
    subst e1
    exact .inl ⟨gs, ρi, acc, l, q, ha, hp⟩
/-- behind the last turn -/
theorem LS.fin {sv : List (Nat × Option Slot)} (p : XPost C Z ρ σ H ρ1 H1) (hw : Owned ρ1 ws) (hv : saveAll ρ1 ns = some sv) (l : LS C Z (lendAll ρ1 ws) σ H1 ns ρe H') :
    Fr ρ σ H H' ∧ Mono ρ (unlend (backAll ρe sv) ws) ∧ Rel C Z (unlend (backAll ρe sv) ws) σ H' ∧ ∀ b, Av Z ρe (wipe σ ns) b → Av Z (unlend (backAll ρe sv) ws) σ b := by
  have rl := p.rel.lendAll hw
  have sv0 := save_val hv
  have nw : ∀ j ∈ ns, j ∉ ws := fun j m mw => by
    obtain ⟨s, es, fs⟩ := hw j mw
    rcases sv0 j m with e | ⟨s', e, f⟩
    · rw [es] at e; cases e
    · rw [es] at e; cases e
      rw [fs] at f; cases f
  obtain ⟨sf, rb, mb, pb⟩ := l.back rl (fun b z => .inl z) hv (fun j m => (lend_same (nw j m)).symm) (by rw [lend_len])
  have hu := SPost.unlendZ (Z' := Z) p.rel hw (fun b z => .inl z) ⟨sf, rb⟩
  have mu : Mono ρ1 (unlend (backAll ρe sv) ws) := mono_unlend (sv := []) hw mb hu.1.len
  exact ⟨p.fr.trans p.mono hu.1.fr, p.mono.trans mu, hu.2, fun b u => ⟨u.1, fun w => u.2 (pb b (unlend_priv w))⟩⟩
theorem LS.start (p : XPost C Z ρ σ H ρ1 H1) (hw : Owned ρ1 ws) (e : ExtD H1 H2) (tt : Tabs C.T H2) : LS C Z (lendAll ρ1 ws) σ H1 ns (wipeAll (lendAll ρ1 ws) ns) H2 := by
  have rl := p.rel.lendAll hw
  refine ⟨SFr.wipe.trans (.exp (.extD e) (.refl _)), rl.wipe.extD e tt, fun j s q => ?_, fun j s n q => ⟨s, by rw [wipeA_ne n]; exact q⟩⟩
  obtain ⟨n, e⟩ := wipeA_at q
  exact ⟨n, s, e, rfl, .inl rfl, fun _ => rfl⟩
variable {msc : Rho → R (List VS.D × List Nat)} {Q : VK}
theorem rp_bl {P : Addr → Prop} {b : Bool} {v : V} : Rp C.K P H (.bl b) v ↔ v = .bl b := by simp only [Rp]
/-- any, all: the plan -/
theorem planA {k bb : Bool} (hns : namesT t = ns) : GPlan t mc me ds ns (fun i ρi _ => loopA ns k (turnB t mc me) (ds.drop i) ρi = .ok bb ρe) (fun _ d ρ' => ∃ b, d = .bl b ∧ (b = k → bb = k ∧ ρ' = ρe)) (fun d => d = .bl (!k)) := by
  refine ⟨fun i h ρi acc hp => ?_⟩
  rw [List.drop_eq_getElem_cons h] at hp
  simp only [loopA] at hp
  cases eb : bindT t ds[i] ρi with
  | none => simp only [turnB, eb] at hp; cases hp
  | some ρ4 =>
    refine ⟨ρ4, rfl, ?_⟩
    cases ec : mc ρ4 with
    | no => simp only [turnB, eb, ec, R.bind] at hp; cases hp
    | ex c r => simp only [turnB, eb, ec, R.bind] at hp; cases hp
    | ok c ρ5 =>
      refine ⟨c, ρ5, rfl, fun h0 => ?_, fun h1 => ?_⟩
      · subst h0
        simp only [turnB, eb, ec, R.bind, Bool.false_eq_true, if_false] at hp
        exact hp
      · subst h1
        simp only [turnB, eb, ec, R.bind, if_true] at hp
        cases ee : me ρ5 with
        | no => simp only [ee] at hp; cases hp
        | ex c r => simp only [ee] at hp; cases hp
        | ok v ρ6 =>
          obtain ⟨o, d⟩ := v
          simp only [ee] at hp
          cases d with
          | bl b =>
            simp only at hp
            refine ⟨(o, .bl b), ρ6, rfl, ⟨b, rfl, fun hb => ?_⟩, fun hd => ?_⟩
            · rw [if_pos hb] at hp
              injection hp with h1 h2
              exact ⟨h1.symm, h2⟩
            · have hb : b = !k := by simpa using hd
              rw [if_neg (by rw [hb]; cases k <;> simp)] at hp
              exact hp
          | _ => simp only at hp; cases hp
/-- what is collected: the plan -/
theorem planC {rs : List VS.D} : GPlan t mc me ds ns (fun i ρi acc => ∃ rest, loopC ns (turnC t mc (fun r3 => (me r3).bind fun v r4 => .ok v.2 r4)) (ds.drop i) ρi = .ok rest ρe ∧ acc ++ rest = rs) (fun acc d _ => ∃ rest, acc ++ d :: rest = rs) (fun _ => True) := by
  refine ⟨fun i h ρi acc ⟨rest, hp, hs⟩ => ?_⟩
  rw [List.drop_eq_getElem_cons h] at hp
  simp only [loopC] at hp
  cases eb : bindT t ds[i] ρi with
  | none => simp only [turnC, eb] at hp; cases hp
  | some ρ4 =>
    refine ⟨ρ4, rfl, ?_⟩
    cases ec : mc ρ4 with
    | no => simp only [turnC, eb, ec, R.bind] at hp; cases hp
    | ex c r => simp only [turnC, eb, ec, R.bind] at hp; cases hp
    | ok c ρ5 =>
      refine ⟨c, ρ5, rfl, fun h0 => ?_, fun h1 => ?_⟩
      · subst h0
        simp only [turnC, eb, ec, R.bind, Bool.false_eq_true, if_false] at hp
        split at hp
        · rename_i rest' r'' hq
          cases hp
          exact ⟨_, hq, hs⟩
        · cases hp
      · subst h1
        simp only [turnC, eb, ec, R.bind, if_true] at hp
        cases ee : me ρ5 with
        | no => simp only [ee] at hp; cases hp
        | ex c r => simp only [ee] at hp; cases hp
        | ok v ρ6 =>
          simp only [ee] at hp
          split at hp
          · rename_i rest' r'' hq
            cases hp
            exact ⟨v, ρ6, rfl, ⟨_, hs⟩, fun _ => ⟨_, hq, by simpa using hs⟩⟩
          · cases hp
theorem imp_any (h : tX C W (gnA true t msc mc me) (GE C) σ H Q) :
    tGx C.T (tSc C W msc) (kAny (gT C (namesT t) (bindT t)) (tT C (fun _ _ _ _ => False) mc) (tX C (fun _ _ _ _ => False) me (GE C)) (namesT t)) σ H Q := by
  obtain ⟨Z, ρ, r0, h⟩ := h
  refine ⟨Z, ρ, r0, ?_⟩
  unfold gnA at h
  cases e0 : msc ρ with
  | no => simp only [e0, R.bind] at h
  | ex c ρ1 => simp only [e0, R.bind] at h; exact h
  | ok its ρ1 =>
    obtain ⟨ds, ws⟩ := its
    intro J H1 p hw gi
    refine ⟨p.rel.tab, fun H2 eD T2 => ?_⟩
    simp only [e0, R.bind] at h
    unfold inScope at h
    cases hv : saveAll ρ1 (namesT t) with
    | none => simp only [hv] at h
    | some sv =>
      simp only [hv] at h
      cases hm : loopA (namesT t) true (turnB t mc me) ds (wipeAll (lendAll ρ1 ws) (namesT t)) with
      | no => simp only [hm] at h
      | ex c r => simp only [hm] at h
      | ok bb ρe =>
        simp only [hm] at h
        have fin : ∀ {H' : Hp}, LS C Z (lendAll ρ1 ws) σ H1 (namesT t) ρe H' → Q (.bl bb) H' := fun {H'} l => by
          obtain ⟨f, m, r, _⟩ := l.fin p hw hv
          exact h (.bl bb) H' (EPost.of_new f m r (Grow.refl _) (show Rp C.K _ _ _ _ from rp_bl.2 rfl))
        refine ⟨_, _, _, ds.length, gturn_of (planA (k := true) (bb := bb) (ρe := ρe) rfl) rfl gi ?_, ⟨Nat.zero_le _, rfl, _, [], LS.start p hw eD T2, RpL.nil, Nat.le_refl _, hm⟩, ?_, ?_⟩
        · rintro acc d y ρ' H4 ⟨b, rfl, _⟩ hr re
          rw [rp_bl.1 hr] at re
          cases re; rfl
        · rintro ys y H4 ⟨ρi, acc, d, l, _, qy, _, b, rfl, hb⟩
          refine ⟨b, rp_bl.1 qy, fun hbt => ?_⟩
          obtain ⟨h1, h2⟩ := hb hbt
          subst h1; subst h2
          exact fin l
        · rintro ys H4 ⟨ρi, acc, l, _, _, hp⟩
          rw [List.drop_length] at hp
          simp only [loopA] at hp
          cases hp
          exact fin l
theorem imp_all (h : tX C W (gnA false t msc mc me) (GE C) σ H Q) :
    tGx C.T (tSc C W msc) (kAll (gT C (namesT t) (bindT t)) (tT C (fun _ _ _ _ => False) mc) (tX C (fun _ _ _ _ => False) me (GE C)) (namesT t)) σ H Q := by
  obtain ⟨Z, ρ, r0, h⟩ := h
  refine ⟨Z, ρ, r0, ?_⟩
  unfold gnA at h
  cases e0 : msc ρ with
  | no => simp only [e0, R.bind] at h
  | ex c ρ1 => simp only [e0, R.bind] at h; exact h
  | ok its ρ1 =>
    obtain ⟨ds, ws⟩ := its
    intro J H1 p hw gi
    refine ⟨p.rel.tab, fun H2 eD T2 => ?_⟩
    simp only [e0, R.bind] at h
    unfold inScope at h
    cases hv : saveAll ρ1 (namesT t) with
    | none => simp only [hv] at h
    | some sv =>
      simp only [hv] at h
      cases hm : loopA (namesT t) false (turnB t mc me) ds (wipeAll (lendAll ρ1 ws) (namesT t)) with
      | no => simp only [hm] at h
      | ex c r => simp only [hm] at h
      | ok bb ρe =>
        simp only [hm] at h
        have fin : ∀ {H' : Hp}, LS C Z (lendAll ρ1 ws) σ H1 (namesT t) ρe H' → Q (.bl bb) H' := fun {H'} l => by
          obtain ⟨f, m, r, _⟩ := l.fin p hw hv
          exact h (.bl bb) H' (EPost.of_new f m r (Grow.refl _) (show Rp C.K _ _ _ _ from rp_bl.2 rfl))
        refine ⟨_, _, _, ds.length, gturn_of (planA (k := false) (bb := bb) (ρe := ρe) rfl) rfl gi ?_, ⟨Nat.zero_le _, rfl, _, [], LS.start p hw eD T2, RpL.nil, Nat.le_refl _, hm⟩, ?_, ?_⟩
        · rintro acc d y ρ' H4 ⟨b, rfl, _⟩ hr re
          rw [rp_bl.1 hr] at re
          cases re; rfl
        · rintro ys y H4 ⟨ρi, acc, d, l, _, qy, _, b, rfl, hb⟩
          refine ⟨b, rp_bl.1 qy, fun hbt => ?_⟩
          obtain ⟨h1, h2⟩ := hb hbt
          subst h1; subst h2
          exact fin l
        · rintro ys H4 ⟨ρi, acc, l, _, _, hp⟩
          rw [List.drop_length] at hp
          simp only [loopA] at hp
          cases hp
          exact fin l
/-- what is collected -/
theorem imp_col {f : List VS.D → Option (Ow × VS.D)} (h : tX C W (gnC f t msc mc me) (GE C) σ H Q) : tSc C W msc σ H fun J H1 => Tabs C.T H1 ∧ ∀ H2, ExtD H1 H2 → Tabs C.T H2 →
    ∃ (We : List V → Hp → Prop) (Wy : List V → V → Hp → Prop) (Wi : Nat → Nat → List V → Hp → Prop) (m0 : Nat) (rs : List VS.D) (Z : Addr → Prop) (ρ ρ' : Rho) (o : Ow × VS.D), GTurn J (gT C (namesT t) (bindT t)) (tT C (fun _ _ _ _ => False) mc) (tX C (fun _ _ _ _ => False) me (GE C)) (namesT t) σ We Wy (fun _ => True) Wi ∧ Wi 0 m0 [] H2 ∧ f rs = some o ∧
      (∀ ys y H4, Wy ys y H4 → ys.length < sizeLine ∧ ∃ P acc d rest, RpL C.K P H4 acc ys ∧ Rp C.K P H4 d y ∧ acc ++ d :: rest = rs) ∧
      (∀ ys H4, We ys H4 → ys.length ≤ sizeLine ∧ Fr ρ σ H H4 ∧ Mono ρ ρ' ∧ Rel C Z ρ' σ H4 ∧ RpL C.K (Av Z ρ' σ) H4 rs ys) ∧ ∀ x H5, GE C Z ρ σ H ρ' o x H5 → Q x H5 := by
  obtain ⟨Z, ρ, r0, h⟩ := h
  refine ⟨Z, ρ, r0, ?_⟩
  unfold gnC at h
  cases e0 : msc ρ with
  | no => simp only [e0, R.bind] at h
  | ex c ρ1 => simp only [e0, R.bind] at h; exact h
  | ok its ρ1 =>
    obtain ⟨ds, ws⟩ := its
    intro J H1 p hw gi
    refine ⟨p.rel.tab, fun H2 eD T2 => ?_⟩
    simp only [e0, R.bind] at h
    cases hf : few ds.length with
    | false => simp only [hf, Bool.false_eq_true, if_false] at h
    | true =>
      simp only [hf, if_true] at h
      unfold inScope at h
      cases hv : saveAll ρ1 (namesT t) with
      | none => simp only [hv] at h
      | some sv =>
        simp only [hv] at h
        cases hm : loopC (namesT t) (turnC t mc (fun r3 => (me r3).bind fun v r4 => .ok v.2 r4)) ds (wipeAll (lendAll ρ1 ws) (namesT t)) with
        | no => have hm' := hm; simp only [R.bind] at hm'; simp only [hm'] at h
        | ex c r => have hm' := hm; simp only [R.bind] at hm'; simp only [hm'] at h
        | ok rs ρe =>
          have hm' := hm
          simp only [R.bind] at hm'
          simp only [hm'] at h
          have dsz : ds.length ≤ sizeLine := sizeLine_few hf
          unfold lift at h
          cases ho : f rs with
          | none => simp only [ho] at h
          | some o =>
            simp only [ho] at h
            refine ⟨_, _, _, ds.length, rs, Z, ρ, unlend (backAll ρe sv) ws, o, gturn_of (planC (rs := rs) (ρe := ρe)) rfl gi (fun _ _ _ _ _ _ _ _ => trivial), ⟨Nat.zero_le _, rfl, _, [], LS.start p hw eD T2, RpL.nil, Nat.le_refl _, rs, hm, rfl⟩, ho, ?_, ?_, h⟩
            · rintro ys y H4 ⟨ρi, acc, d, l, q, qy, hl, rest, hr⟩
              exact ⟨by rw [q.length]; exact Nat.lt_of_lt_of_le hl dsz, _, acc, d, rest, q, qy, hr⟩
            · rintro ys H4 ⟨ρi, acc, l, q, hl, rest, hp, hr⟩
              rw [List.drop_length] at hp
              simp only [loopC] at hp
              cases hp
              rw [List.append_nil] at hr
              subst hr
              obtain ⟨fr, m, r, av⟩ := l.fin p hw hv
              exact ⟨by rw [q.length]; exact Nat.le_trans hl dsz, fr, m, r, RpL.keep (fun _ _ e _ => e) (fun b _ u => av b u) _ _ q⟩
end
end VS
end

section
set_option autoImplicit false
set_option linter.all false
set_option maxRecDepth 20000
/-! VG10: generator expressions asked by any, all, sum, tuple, sorted: the judgement. -/
namespace VS
open PySem PySem.Spec PyProof.Rows L2 LamX

def gnN : Gn → PySem.Str
  | .any => "any" | .all => "all" | .sum => "sum" | .min => "min" | .max => "max" | .sorted => "sorted" | .tuple => "tuple"
section
variable {C : RC} {X : Cx} {k : Nat} {tg elt iter : Expr} {ifs : List Expr} {scope : Scope} {own : List (PySem.Str × Nat)} {p pos gpos : Pos} {t : Tg} {msc : Rho → R (List VS.D × List Nat)} {mc : Rho → R Bool} {me : Rho → R (Ow × VS.D)}
/-- the parts do what the evaluator says -/
structure GSem (C : RC) (X : Cx) (k : Nat) (tg elt iter : Expr) (ifs : List Expr) (scope : Scope) (own : List (PySem.Str × Nat)) (t : Tg) (msc : Rho → R (List VS.D × List Nat)) (mc : Rho → R Bool) (me : Rho → R (Ow × VS.D)) : Prop where
  hk : C.K = X.K
  ok : BlkOk X.N X.env.scope scope own
  hown : own.map (·.2) = namesT t
  hN : X.N.Nodup
  nocell : ∀ y ∈ scope.names, y.2 ≠ .cell
  co : scope.isCoroutine = false
  dot : scope.names.lookup (".0" : PySem.Str) = some NameKind.local
  hi : SI C X tg iter msc
  hs : ∀ v, genFold iter X.env v = pure v
  pg : ∀ (A : Around) (s4 : Shared) (H : Hp) (code : Value) (fp : List Addr) (pn : List (Addr × Obj)), Room k (A.deeper (gEnv X scope s4 code)) → PG (genCx X A s4 H (gEnv X scope s4 code) fp pn) tg (gT C (namesT t) (bindT t))
  pt : ∀ (A : Around) (s4 : Shared) (H : Hp) (code : Value) (fp : List Addr) (pn : List (Addr × Obj)), Room k (A.deeper (gEnv X scope s4 code)) → SBs C (genCx X A s4 H (gEnv X scope s4 code) fp pn) ifs mc
  pe : ∀ (A : Around) (s4 : Shared) (H : Hp) (code : Value) (fp : List Addr) (pn : List (Addr × Obj)), Room k (A.deeper (gEnv X scope s4 code)) → SE C (genCx X A s4 H (gEnv X scope s4 code) fp pn) elt me
theorem GSem.body {W : WX} (S : GSem C X k tg elt iter ifs scope own t msc mc me) (tk : Takes X W) : GBody X k tg elt iter ifs scope own (tSc C W msc) (gT C (namesT t) (bindT t)) (tT C (fun _ _ _ _ => False) mc) (tX C (fun _ _ _ _ => False) me (GE C)) :=
  ⟨S.ok, S.hN, S.nocell, S.co, S.dot, S.hi W tk, S.hs, S.pg, fun A s4 H code fp pn r => S.pt A s4 H code fp pn r _ takes_no, fun A s4 H code fp pn r => S.pe A s4 H code fp pn r _ takes_no⟩
theorem se_gnAny (S : GSem C X k tg elt iter ifs scope own t msc mc me) (hr : Room (k + 1) X.A) (hg : Gl X "any") (hm : X.mg "any" = none) (st : GSite X C.T gpos) :
    SE C X (.Call (.Name "any" p) [.GeneratorExp elt [⟨tg, iter, ifs, 0⟩] scope gpos] [] pos) (gnEv .any t msc mc me) := fun W tk =>
  PE.imp (pe_anyG hr hg hm st (S.body tk)) fun σ H Q h => by rw [S.hown]; exact imp_any h
theorem se_gnAll (S : GSem C X k tg elt iter ifs scope own t msc mc me) (hr : Room (k + 1) X.A) (hg : Gl X "all") (hm : X.mg "all" = none) (st : GSite X C.T gpos) :
    SE C X (.Call (.Name "all" p) [.GeneratorExp elt [⟨tg, iter, ifs, 0⟩] scope gpos] [] pos) (gnEv .all t msc mc me) := fun W tk =>
  PE.imp (pe_allG hr hg hm st (S.body tk)) fun σ H Q h => by rw [S.hown]; exact imp_all h
theorem tSc_imp {W : WX} {σ : L2.St} {H : Hp} {Q Q' : It → Hp → Prop} (h : tSc C W msc σ H Q) (i : ∀ J H1, Q J H1 → Q' J H1) : tSc C W msc σ H Q' := by
  obtain ⟨Z, ρ, r, h⟩ := h
  refine ⟨Z, ρ, r, ?_⟩
  cases e : msc ρ with
  | no => simp only [e] at h
  | ex c ρ1 => simp only [e] at h ⊢; exact h
  | ok its ρ1 =>
    simp only [e] at h ⊢
    exact fun J H1 a b c => i J H1 (h J H1 a b c)
theorem intsD_app : ∀ {as bs : List VS.D} {is : List Int}, intsD (as ++ bs) = some is → ∃ is1 is2, intsD as = some is1 ∧ intsD bs = some is2
  | [], bs, is, h => ⟨[], is, rfl, h⟩
  | a :: as, bs, is, h => by
    cases a <;> simp only [List.cons_append, intsD, reduceCtorEq, Option.map_eq_some_iff] at h
    obtain ⟨js, h, _⟩ := h
    obtain ⟨i1, i2, h1, h2⟩ := intsD_app h
    exact ⟨_ :: i1, i2, by simp only [intsD, h1, Option.map_some]; rfl, h2⟩
theorem map_int_inj : ∀ {a b : List Int}, a.map V.int = b.map V.int → a = b
  | [], [], _ => rfl
  | [], _ :: _, h => by cases h
  | _ :: _, [], h => by cases h
  | x :: xs, y :: ys, h => by
    simp only [List.map_cons, List.cons.injEq, V.int.injEq] at h
    rw [h.1, map_int_inj h.2]
theorem se_gnSum (S : GSem C X k tg elt iter ifs scope own t msc mc me) (hr : Room (k + 1) X.A) (hg : Gl X "sum") (hm : X.mg "sum" = none) (st : GSite X C.T gpos) :
    SE C X (.Call (.Name "sum" p) [.GeneratorExp elt [⟨tg, iter, ifs, 0⟩] scope gpos] [] pos) (gnEv .sum t msc mc me) := fun W tk =>
  PE.imp (pe_sumG hr hg hm st (S.body tk)) fun σ H Q h => by
    rw [S.hown]
    have h : tX C W (gnC (consD (gnD .sum)) t msc mc me) (GE C) σ H Q := h
    refine tSc_imp (imp_col h) fun J H1 ⟨T1, h1⟩ => ⟨T1, fun H2 eD T2 => ?_⟩
    obtain ⟨We, Wy, Wi, m0, rs, Z, ρ, ρ', o, turn, w, ho, hy, he, hq⟩ := h1 H2 eD T2
    simp only [gnD, consD, Option.map_eq_some_iff] at ho
    obtain ⟨is, hi, rfl⟩ := ho
    refine ⟨We, Wy, Wi, m0, turn, w, fun ys y H4 c => ?_, fun ns H4 c => ?_⟩
    · obtain ⟨_, P, acc, d, rest, _, qy, e⟩ := hy ys y H4 c
      rw [← e] at hi
      obtain ⟨i1, i2, _, h2⟩ := intsD_app hi
      cases d <;> simp only [intsD, reduceCtorEq] at h2
      simp only [Rp] at qy
      exact ⟨_, qy⟩
    · obtain ⟨_, fr, m, r, q⟩ := he _ H4 c
      have e := map_int_inj (intsD_rp hi q)
      subst e
      exact hq (.int ns.sum) H4 (EPost.of_new fr m r (Grow.refl _) (show Rp C.K _ _ _ _ by simp only [Rp]))
theorem se_gnTuple (S : GSem C X k tg elt iter ifs scope own t msc mc me) (hr : Room (k + 1) X.A) (hg : Gl X "tuple") (hm : X.mg "tuple" = none) (st : GSite X C.T gpos) :
    SE C X (.Call (.Name "tuple" p) [.GeneratorExp elt [⟨tg, iter, ifs, 0⟩] scope gpos] [] pos) (gnEv .tuple t msc mc me) := fun W tk =>
  PE.imp (pe_tupleG hr hg hm st (S.body tk)) fun σ H Q h => by
    rw [S.hown]
    have h : tX C W (gnC (consD (gnD .tuple)) t msc mc me) (GE C) σ H Q := h
    refine tSc_imp (imp_col h) fun J H1 ⟨T1, h1⟩ => ⟨T1, fun H2 eD T2 => ?_⟩
    obtain ⟨We, Wy, Wi, m0, rs, Z, ρ, ρ', o, turn, w, ho, hy, he, hq⟩ := h1 H2 eD T2
    simp only [gnD, consD] at ho
    cases ho
    refine ⟨We, Wy, Wi, m0, turn, w, fun ys y H4 c => (hy ys y H4 c).1, fun ys H4 c => ?_⟩
    obtain ⟨hz, fr, m, r, q⟩ := he _ H4 c
    exact ⟨hz, fun p hp => hq (.ref p) _ (EPost.of_new fr m r (Grow.new hp) (newTup q hp))⟩
theorem se_gnSorted (S : GSem C X k tg elt iter ifs scope own t msc mc me) (hr : Room (k + 1) X.A) (hg : Gl X "sorted") (hm : X.mg "sorted" = none) (st : GSite X C.T gpos) :
    SE C X (.Call (.Name "sorted" p) [.GeneratorExp elt [⟨tg, iter, ifs, 0⟩] scope gpos] [] pos) (gnEv .sorted t msc mc me) := fun W tk =>
  PE.imp (pe_sortedG hr hg hm st (S.body tk)) fun σ H Q h => by
    rw [S.hown]
    have h : tX C W (gnC (consD (gnD .sorted)) t msc mc me) (GE C) σ H Q := h
    refine tSc_imp (imp_col h) fun J H1 ⟨T1, h1⟩ => ⟨T1, fun H2 eD T2 => ?_⟩
    obtain ⟨We, Wy, Wi, m0, rs, Z, ρ, ρ', o, turn, w, ho, hy, he, hq⟩ := h1 H2 eD T2
    simp only [gnD, consD, Option.map_eq_some_iff] at ho
    obtain ⟨es, hs, rfl⟩ := ho
    refine ⟨We, Wy, Wi, m0, turn, w, fun ys y H4 c => (hy ys y H4 c).1, fun ys H4 c => ?_⟩
    obtain ⟨hz, fr, m, r, q⟩ := he _ H4 c
    refine ⟨hz, _, rs, es, by rw [← S.hk]; exact q, hs, fun zs p hp hrz => hq (.ref p) _ (EPost.of_new fr m r (Grow.new hp) ⟨p, rfl, hp, zs, upd_same, ?_⟩)⟩
    rw [S.hk]
    exact RpL.keep (fun _ _ e _ => e) (fun b _ u => ⟨.inl u.1, u.2⟩) _ _ hrz
end
end VS
end

section
set_option autoImplicit false
set_option linter.all false
set_option maxRecDepth 20000
/-! VR1: lists of lambdas. -/
namespace VS
open PySem PySem.Spec PyProof.Rows L2 LamX

abbrev LamOk := Nat → Arguments → Expr → Scope → Prop
/-- f is the j-th lambda -/
def LamAt (nm : PySem.Str) (cells : List (PySem.Str × Addr)) (ok : LamOk) (H : Hp) (j : Nat) (f : Addr) : Prop := ∃ pr bd lsc c2, H f = some (LamO f nm pr bd lsc (cloFrom cells lsc.names []) c2) ∧ H c2 = some (CodeO c2 nm) ∧ ok j pr bd lsc
def LamsAt (nm : PySem.Str) (cells : List (PySem.Str × Addr)) (ok : LamOk) (H : Hp) : Nat → List Addr → Prop
  | _, [] => True
  | j, f :: fs => LamAt nm cells ok H j f ∧ LamsAt nm cells ok H (j + 1) fs
section
variable {nm : PySem.Str} {cells : List (PySem.Str × Addr)} {ok : LamOk} {H H' : Hp}
theorem LamAt.keep {j : Nat} {f : Addr} (h : LamAt nm cells ok H j f) (k : ∀ b o, H b = some o → (∃ φ, o = .ext φ) → H' b = some o) : LamAt nm cells ok H' j f := by
  obtain ⟨pr, bd, lsc, c2, h1, h2, h3⟩ := h
  exact ⟨pr, bd, lsc, c2, k _ _ h1 ⟨_, rfl⟩, k _ _ h2 ⟨_, rfl⟩, h3⟩
theorem LamsAt.keep (k : ∀ b o, H b = some o → (∃ φ, o = .ext φ) → H' b = some o) : ∀ {fs : List Addr} {j : Nat}, LamsAt nm cells ok H j fs → LamsAt nm cells ok H' j fs
  | [], _, _ => trivial
  | f :: fs, j, h => ⟨h.1.keep k, LamsAt.keep k h.2⟩
theorem LamsAt.get : ∀ {fs : List Addr} {j i : Nat} {f : Addr}, LamsAt nm cells ok H j fs → fs[i]? = some f → LamAt nm cells ok H (j + i) f
  | f :: fs, j, 0, g, h, e => by
    simp at e; subst e
    exact h.1
  | f :: fs, j, i + 1, g, h, e => by
    have := LamsAt.get (fs := fs) (j := j + 1) (i := i) h.2 (by simpa using e)
    rwa [show j + 1 + i = j + (i + 1) by omega] at this
theorem LamsAt.append : ∀ {fs gs : List Addr} {j : Nat}, LamsAt nm cells ok H j fs → LamsAt nm cells ok H (j + fs.length) gs → LamsAt nm cells ok H j (fs ++ gs)
  | [], gs, j, _, h => by simpa using h
  | f :: fs, gs, j, h, h' => ⟨h.1, LamsAt.append h.2 (by rwa [show j + 1 + fs.length = j + (f :: fs).length by simp; omega])⟩
end
/-- slots hold lists of lambdas -/
def CL (K : PySem.W.Frag) (cv : Nat → Value) (T : Tbs) (nm : PySem.Str) (cells : List (PySem.Str × Addr)) (ok : LamOk) : RC where
  K := K
  cv := cv
  T := T
  fo := fun _ n v H => ∃ a fs, v = .ref a ∧ H a = some (.lst (fs.map V.ref)) ∧ fs.length = n ∧ LamsAt nm cells ok H 0 fs
  st := fun i n v H H' h k => by
    obtain ⟨a, fs, e, h1, h2, h3⟩ := h
    exact ⟨a, fs, e, k a _ h1 (fun ps z => by cases z) (.inr e), h2, h3.keep fun b o eb ⟨φ, z⟩ => k b o eb (fun ps q => by rw [z] at q; cases q) (.inl ⟨φ, z⟩)⟩
/-- a new lambda, to be kept -/
def tLamN (T : Tbs) (nm : PySem.Str) (cells : List (PySem.Str × Addr)) (ok : LamOk) (j : Nat) : TE := fun σ H Q => Tabs T H ∧ ∀ H1 f, ExtD H H1 → Tabs T H1 → LamAt nm cells ok H1 j f → Q (.ref f) H1
def tLamsN (T : Tbs) (nm : PySem.Str) (cells : List (PySem.Str × Addr)) (ok : LamOk) (j n : Nat) : TA := fun σ H Q => Tabs T H ∧ ∀ H1 fs, ExtD H H1 → Tabs T H1 → fs.length = n → LamsAt nm cells ok H1 j fs → Q (fs.map V.ref) H1
theorem ExtD.trans {H H1 H2 : Hp} (a : ExtD H H1) (b : ExtD H1 H2) : ExtD H H2 := ⟨a.1.trans b.1, fun c o e => let ⟨o1, e1⟩ := a.2 c o e; b.2 c o1 e1⟩
theorem ExtD.new {H : Hp} {p : Addr} {o : HO} (h : H p = none) : ExtD H (upd H p o) := ⟨fun b u e _ => by rw [upd_ne (ne_of_none e h)]; exact e, fun b u e => ⟨u, by rw [upd_ne (ne_of_none e h)]; exact e⟩⟩
theorem Tabs.new {T : Tbs} {H : Hp} {p : Addr} {o : HO} (t : Tabs T H) (h : H p = none) : Tabs T (upd H p o) := t.ext fun b u e => by rw [upd_ne (ne_of_none e h)]; exact e
section
variable {X : Cx} {T : Tbs} {cd tb : Addr} {nm : PySem.Str} {G : List (Nat × Nat)} {ok : LamOk}
/-- lambdas may be made here -/
structure LSite (X : Cx) (T : Tbs) (cd tb : Addr) (nm : PySem.Str) (G : List (Nat × Nat)) : Prop where
  nm_ : nm = X.env.qual ++ "<lambda>"
  B : TabB X.base X.mg cd tb
  hcd : X.env.code = .ref cd
  ht : (tb, nm, G) ∈ T
  one : ∀ p ∈ T, p.1 = tb → p.2 = (nm, G)
theorem pe_lamN {pr : Arguments} {bd : Expr} {sc : Scope} {at' : Pos} {j : Nat} (S : LSite X T cd tb nm G) (hG0 : inG G at' = false) (nodef : defaultsOf pr X.env = ([], [])) (L : LamS X.env.scope sc) (hok : ok j pr bd sc) :
    PE X (.Lambda pr bd sc at') (tLamN T nm X.env.cells ok j) := by
  refine ⟨fun pins s σ H Q I ⟨tt, h⟩ => ?_⟩
  refine lam_mkT S.nm_ I S.B S.hcd S.ht S.one hG0 tt nodef (L.has I.ok) fun f c2 H1 s2 eD T1 nf hc I2 => ?_
  refine ⟨.ref f, _, I2, rfl, h _ f (eD.trans (.new nf)) (T1.new nf) ⟨pr, bd, sc, c2, upd_same, ?_, hok⟩⟩
  rw [upd_ne (ne_of_none hc nf)]
  exact hc
/-- which expressions are lambdas -/
def IsLam (X : Cx) (G : List (Nat × Nat)) (ok : LamOk) (j : Nat) (e : Expr) : Prop := ∃ pr bd lsc pos, e = .Lambda pr bd lsc pos ∧ defaultsOf pr X.env = ([], []) ∧ LamS X.env.scope lsc ∧ inG G pos = false ∧ ok j pr bd lsc
theorem pa_lams (S : LSite X T cd tb nm G) : ∀ (es : List Expr) (j : Nat), (∀ i e, es[i]? = some e → IsLam X G ok (j + i) e) → PA X es (tLamsN T nm X.env.cells ok j es.length)
  | [], j, _ => by
    refine ⟨fun pos pins s σ H Q I h => pa_nil.run pos pins s σ H Q I ?_⟩
    exact h.2 H [] ⟨ExtN.refl H, fun b o e => ⟨o, e⟩⟩ h.1 rfl trivial
  | e :: es, j, h => by
    obtain ⟨pr, bd, lsc, pos0, rfl, nd, L, hG, hok⟩ := h 0 e rfl
    have ih := pa_lams S es (j + 1) fun i e he => by
      have := h (i + 1) e (by simpa using he)
      rwa [show j + (i + 1) = j + 1 + i by omega] at this
    have one := pa_cons (pe_lamN (j := j) S hG nd L hok) ih (star_cons rfl _ _)
    refine ⟨fun pos pins s σ H Q I ⟨tt, q⟩ => one.run pos pins s σ H Q I ?_⟩
    refine ⟨tt, fun H1 f eD T1 hf => ⟨T1, fun H2 fs eD2 T2 hl hfs => ?_⟩⟩
    refine q H2 (f :: fs) (eD.trans eD2) T2 (by simp [hl]) ⟨hf.keep fun b o e ⟨φ, z⟩ => eD2.1 b o e fun ps w => (by rw [z] at w; cases w), hfs⟩
end
section
variable {C : RC} {X : Cx} {W : WX} {Z : Addr → Prop} {ρ : Rho} {σ : L2.St} {H H1 : Hp} {i : Nat} {a : Addr}
/-- a list of lambdas comes into a slot -/
theorem Rel.putF {n : Nat} (r : Rel C Z ρ σ H) (li : i < ρ.length) (q : C.fo i n (.ref a) H) (hs : ∃ o, H a = some o) (nz : ¬ Z a) (np : ¬ Priv ρ σ a) : SPost C Z ρ σ H (putS ρ i ⟨.fns, false, .int n⟩) (σ.set i (some (.ref a))) H := by
  have ls : i < σ.length := by rw [← r.len]; exact li
  have pv : ∀ b, Priv (putS ρ i ⟨.fns, false, .int n⟩) (σ.set i (some (.ref a))) b → Priv ρ σ b := fun b w => (put_priv li w ls).elim id fun ⟨f, _⟩ => by rcases f with f | f <;> cases f
  have av : ∀ b, Av Z ρ σ b → Av Z (putS ρ i ⟨.fns, false, .int n⟩) (σ.set i (some (.ref a))) b := fun b p => ⟨p.1, fun w => p.2 (pv b w)⟩
  have k : ∀ P, Keep P H H := fun _ _ _ e _ => e
  refine ⟨.store li ls rfl (fun z => nomatch z) (fun f => by rcases f with f | f <;> cases f), ⟨by simp [putS, r.len], r.tab, r.zd, fun j t h f => ?_, fun j t h f => ?_, fun j t h f => ?_, fun j t h f => ?_, fun j l t u b h1 h2 f1 f2 e1 e2 => ?_⟩⟩
  · rcases put_at li h with ⟨rfl, rfl⟩ | ⟨hj, h⟩
    · cases f
    · obtain ⟨y, e, w⟩ := r.val j t h f
      exact ⟨y, by rw [set_ne hj]; exact e, Rp.keep (k _) (fun b _ => av b) _ _ w⟩
  · rcases put_at li h with ⟨rfl, rfl⟩ | ⟨hj, h⟩
    · cases f
    · obtain ⟨y, e, n, w⟩ := r.own j t h f
      exact ⟨y, by rw [set_ne hj]; exact e, n, Top.keep (k _) (fun b _ => av b) (fun _ e _ => e) w⟩
  · rcases put_at li h with ⟨rfl, rfl⟩ | ⟨hj, h⟩
    · cases f
    · obtain ⟨y, e, n, w⟩ := r.lent j t h f
      exact ⟨y, by rw [set_ne hj]; exact e, n, TopR.keep (k _) (fun b _ => av b) (fun _ e _ => e) w⟩
  · rcases put_at li h with ⟨rfl, rfl⟩ | ⟨hj, h⟩
    · exact ⟨n, _, rfl, set_eq ls, q, fun b eb => by cases eb; exact ⟨hs, nz, fun w => np (pv _ w)⟩⟩
    · obtain ⟨n', y, e, e2, w, z⟩ := r.fns j t h f
      exact ⟨n', y, e, by rw [set_ne hj]; exact e2, w, fun b eb => ⟨(z b eb).1, (z b eb).2.1, fun w => (z b eb).2.2 (pv b w)⟩⟩
  · rcases put_at li h1 with ⟨rfl, rfl⟩ | ⟨hj, h1⟩
    · rcases f1 with f | f <;> cases f
    · rcases put_at li h2 with ⟨rfl, rfl⟩ | ⟨hl, h2⟩
      · rcases f2 with f | f <;> cases f
      · rw [set_ne hj] at e1
        rw [set_ne hl] at e2
        exact r.apart j l t u b h1 h2 f1 f2 e1 e2
end
section
variable {K : PySem.W.Frag} {cv : Nat → Value} {T : Tbs} {nm : PySem.Str} {ok : LamOk} {X : Cx} {cd tb : Addr} {G : List (Nat × Nat)} {i : Nat} {n : PySem.Str} {es : List Expr} {p1 p2 p3 p4 p5 : Pos}
def lamsR (i n : Nat) (r : Rho) : SR := if i < r.length then .nx (putS r i ⟨.fns, false, .int n⟩) else .no
def lamsAddR (i m n : Nat) (r : Rho) : SR := match getF r i with
  | some m' => if m' = m then .nx (putS r i ⟨.fns, false, .int ((m + n : Nat) : Int)⟩) else .no
  | none => .no
theorem ss_lams (S : LSite X T cd tb nm G) (hN : X.N.Nodup) (hi : X.N[i]? = some n) (hx : Loc X.env.scope n) (hf : X.fn n = true ∨ X.env.scope.names.lookup n = some .local) (hs : swapsWith (.List es p1) (some (.Name n p2)) p3.line X.env = pure false)
    (hz : es.length ≤ sizeLine) (hl : ∀ k e, es[k]? = some e → IsLam X G ok (0 + k) e) :
    SS (CL K cv T nm X.env.cells ok) X (.Assign [.Name n p2] (.List es p1) p3) (lamsR i es.length) := fun W tk => by
  refine PS.imp (ps_set hN hi hx (pe_lst (pa_lams S es 0 hl)) hs hf) fun D σ H ⟨Z, ρ, r, h⟩ => ?_
  refine ⟨r.tab, fun H1 fs eD T1 hn hfs => ⟨by simp [hn, hz], fun p hp => ?_⟩⟩
  unfold lamsR at h
  by_cases li : i < ρ.length
  · rw [if_pos li] at h
    have r2 := (r.extD eD T1)
    have g : Grow H1 (upd H1 p (.lst (fs.map V.ref))) := Grow.new hp
    have r3 := r2.grow g
    have np := r2.noneAv hp
    have P := Rel.putF (i := i) (a := p) (n := es.length) r3 li ⟨p, fs, rfl, upd_same, hn, hfs.keep fun b o e _ => g b o e⟩ ⟨_, upd_same⟩ np.1 np.2
    exact h _ _ ⟨(SFr.exp ((Fr.extD eD).trans (.refl _) (.grow g)) (.refl _)).trans P.sfr, P.rel⟩
  · rw [if_neg li] at h
    exact h.elim
theorem ss_lamsAdd {m : Nat} (S : LSite X T cd tb nm G) (hN : X.N.Nodup) (hi : X.N[i]? = some n) (hx : Loc X.env.scope n) (hf : X.fn n = true ∨ X.env.scope.names.lookup n = some .local) (hs : swapsWith (.BinOp (.Name n p4) .Add (.List es p1) p5) (some (.Name n p2)) p3.line X.env = pure false)
    (hd : (n == ("__debug__" : PySem.Str)) = false) (hcd : (n == ("__classdict__" : PySem.Str)) = false) (hz : m + es.length ≤ sizeLine) (hl : ∀ k e, es[k]? = some e → IsLam X G ok (m + k) e) :
    SS (CL K cv T nm X.env.cells ok) X (.Assign [.Name n p2] (.BinOp (.Name n p4) .Add (.List es p1) p5) p3) (lamsAddR i m es.length) := fun W tk => by
  have hv : Vis X.env.scope n := hx.elim .inl fun z => .inr (.inl z)
  refine PS.imp (ps_set hN hi hx (pe_op op_cat (pe_var (i := i) hi hv hd hcd) (pe_lst (pa_lams S es m hl))) hs hf) fun D σ H ⟨Z, ρ, r, h⟩ => ?_
  unfold lamsAddR at h
  cases e0 : getF ρ i with
  | none => simp only [e0] at h; exact h.elim
  | some m' =>
    simp only [e0] at h
    split at h
    · rename_i em
      subst em
      unfold getF at e0
      split at e0
      · rename_i pp nn e1
        cases e0
        obtain ⟨n0, v, d1, ev, ⟨a, fs, rfl, ha, hn, hfs⟩, hv⟩ := r.fns i _ e1 rfl
        have en : n0 = nn.toNat := by
          have : VS.D.int nn = VS.D.int n0 := d1
          cases this; simp
        have li : i < ρ.length := (List.getElem?_eq_some_iff.1 e1).1
        refine ⟨.ref a, ev, r.tab, fun H1 gs eD T1 hg hgs => ⟨by simp [hg]; omega, fun p hp => ?_⟩⟩
        have ha1 : H1 a = some (.lst (fs.map V.ref)) := eD.1 a _ ha fun ps z => by cases z
        have g : Grow H1 (upd H1 p (.lst (gs.map V.ref))) := Grow.new hp
        refine ⟨a, p, fs.map V.ref, gs.map V.ref, rfl, rfl, g a _ ha1, upd_same, by simp [hn, hg]; omega, fun q hq => ?_⟩
        have g2 : Grow (upd H1 p (.lst (gs.map V.ref))) (upd (upd H1 p (.lst (gs.map V.ref))) q (.lst (fs.map V.ref ++ gs.map V.ref))) := Grow.new hq
        have r2 := (r.extD eD T1).grow g
        have r3 := r2.grow g2
        have np := r2.noneAv hq
        have P := Rel.putF (i := i) (a := q) (n := nn.toNat + es.length) r3 li ⟨q, fs ++ gs, rfl, by rw [List.map_append]; exact upd_same, by rw [List.length_append, hn, hg, en], ?_⟩ ⟨_, upd_same⟩ np.1 np.2
        · exact h _ _ ⟨(SFr.exp ((Fr.extD eD).trans (.refl _) (.grow (g.trans g2))) (.refl _)).trans P.sfr, P.rel⟩
        · refine LamsAt.append (hfs.keep fun b o e ⟨φ, z⟩ => g2 b o (g b o (eD.1 b o e fun ps w => by rw [z] at w; cases w))) ?_
          rw [hn, en, Nat.zero_add]
          exact hgs.keep fun b o e _ => g2 b o (g b o e)
      · cases e0
    · exact h.elim
end
end VS
end

section
set_option autoImplicit false
set_option linter.all false
set_option maxRecDepth 20000
/-! VR2: lambdas that are called behind their def's back: in a comprehension's block. -/
namespace VS
open PySem PySem.Spec PyProof.Rows L2 LamX

section
variable {X : Cx} {elt tg iter : Expr} {ifs : List Expr} {scope : Scope} {own : List (PySem.Str × Nat)} {pos : Pos}
/-- a comprehension whose tests know the def's state at its start -/
theorem lc_coreO {pins : List (Addr × Obj)} {s : Shared} {σ : L2.St} {H : Hp} {Q : VK} {pos' : Pos} {wi : TI} {g : TG} {tt : TT} {te : TE} {use : Option (Value → Sem Unit)} {Qf : Value → Shared → Prop}
    (hc : X.calm = true) (hN : X.N.Nodup) (I : Inv X pins σ H s) (hi : PI X tg iter wi) (ok : BlkOk X.N X.env.scope scope own)
    (hg : ∀ (s : Shared) (H : Hp) (E : Addr) (cl : List (PySem.Str × Addr)) (fp : List Addr), PG (X.blk s H scope (compEnvC scope cl E X.env) fp) tg g)
    (ht : ∀ (s : Shared) (H : Hp) (E : Addr) (cl : List (PySem.Str × Addr)) (fp : List Addr), Inv X pins σ H s → (∀ b ∈ fp, FpOk X pins H b) → PTs (X.blk s H scope (compEnvC scope cl E X.env) fp) ifs tt)
    (he : ∀ (s : Shared) (H : Hp) (E : Addr) (cl : List (PySem.Str × Addr)) (fp : List Addr), PE (X.blk s H scope (compEnvC scope cl E X.env) fp) elt te) (hs : ∀ x, foldedSetIterable iter X.env x = pure x)
    (h : tLc wi g tt te (own.map (·.2)) σ H Q)
    (hRR : ∀ D C s' m H', Inv X pins σ H' s' → Q (.ref D) H' → s'.heap.Ns C m → FpOk X pins H' C → compPost (model X.prog X.w) X.A X.xe use Qf (.ref D) C (.ok .next) s') :
    wpAny (model X.prog X.w) X.A (comprehension (.ListComp elt [⟨tg, iter, ifs, 0⟩] scope pos) scope X.env pos' (newList []) false (eval iter X.env) use) Qf X.xe s := by
  have capt : ∀ y ∈ scope.names, y.2 = .free → ∃ c, X.env.cells.lookup y.1 = some c :=
    fun y hy e => (ok.free y hy e).elim (fun k => I.ok.has _ (.inl k)) fun k => I.ok.has _ (.inr k)
  refine wpAny_comprehension_free (use := use) rfl hs (closure_ok capt) ok.kind (fun y hy e => by rw [ok.uniq y hy, e])
    (thn (hi.run pins s σ H _ I h) fun xv u1 hx => thn hx fun itv u2 h2 => ?_)
  obtain ⟨it, fp, tn, J, G2, e, iB, T, tB, fpB, q⟩ := h2
  subst e
  refine wpAny_newObj_type (newEnv_comp ?_) (by show 0 ≤ sizeLine; decide)
  generalize isL : u2.heap.objs.size = L
  have noL : G2 L = none := iB.hok.fresh (Nat.le_of_eq isL)
  obtain ⟨W, ⟨m0, wA⟩, wTurn⟩ := q L noL
  -- the new list
  generalize isC : ({ u2 with heap := u2.heap.push { cls := .type "list", data := .seq ([] : List Value).toArray } } : Shared) = u3
  have iC : Inv X pins σ (upd G2 L (.lst [])) u3 := by
    rw [← isC]
    refine iB.laid (t' := u2.toks) (fun b o e => Heap.get?_push_of_some _ e) (Nat.le_of_eq isL) ⟨Nat.zero_le _, [], 0, .nil, ?_⟩
    rw [← isL]
    exact Heap.get?_push_size _ rfl
  have h3 : u3.heap = u2.heap.push { cls := .type "list", data := .seq ([] : List Value).toArray } := by rw [← isC]
  have lens : ∀ b ∈ fp, b < u2.heap.objs.size := fun b hb => by
    obtain ⟨o, e, _⟩ := T.obj _ _ tB b hb
    exact Heap.lt_size e
  have fpC : ∀ b ∈ fp, FpOk X pins (upd G2 L (.lst [])) b ∧ b < u3.heap.objs.size := fun b hb => by
    have hlt := lens b hb
    refine ⟨⟨?_, (fpB b hb).2⟩, by rw [h3, Heap.size_push]; exact Nat.lt_succ_of_lt hlt⟩
    rw [upd_ne (by rw [← isL]; exact Nat.ne_of_lt hlt)]
    exact (fpB b hb).1
  have tC : tn 0 u3.heap := T.keep _ _ _ tB fun b _ o e => by rw [h3]; exact Heap.get?_push_of_some _ e
  have iD := block_start iC ok hN fpC
  have pg := hg u3 (upd G2 L (.lst [])) u3.heap.objs.size (cellsFrom (u3.heap.objs.size + 1) scope.names (cloFrom X.env.cells scope.names [])) fp
  have pt := ht u3 (upd G2 L (.lst [])) u3.heap.objs.size (cellsFrom (u3.heap.objs.size + 1) scope.names (cloFrom X.env.cells scope.names [])) fp iC fun b hb => (fpC b hb).1
  have pe := he u3 (upd G2 L (.lst [])) u3.heap.objs.size (cellsFrom (u3.heap.objs.size + 1) scope.names (cloFrom X.env.cells scope.names [])) fp
  show codeAny _ _ (.compStart (.ListComp elt [⟨tg, iter, ifs, 0⟩] scope pos) 0 (.ref it) (.ref L) (compEnvC scope (cellsFrom (u3.heap.objs.size + 1) scope.names (cloFrom X.env.cells scope.names [])) u3.heap.objs.size X.env)) (compPost (model X.prog X.w) X.A X.xe use Qf (.ref L) u3.heap.objs.size) { u3 with heap := pushCells (u3.heap.push { cls := .type "dict", data := .dict #[] }) scope.names }
  have noFp : ∀ b ∈ fp, (upd G2 L (.lst [])) b = none := fun b hb => (fpC b hb).1.1
  generalize envIs : compEnvC scope (cellsFrom (u3.heap.objs.size + 1) scope.names (cloFrom X.env.cells scope.names [])) u3.heap.objs.size X.env = ce at iD pg pt pe ⊢
  have envL : ce.locals = u3.heap.objs.size := by subst envIs; rfl
  generalize hH3 : upd G2 L (.lst []) = G3 at iC iD pg pt pe wA noFp fpC
  generalize isD : ({ u3 with heap := pushCells (u3.heap.push { cls := .type "dict", data := .dict #[] }) scope.names } : Shared) = u4 at iD ⊢
  have tD : tn 0 u4.heap := T.keep _ _ _ tC fun b _ o e => by rw [← isD]; exact pushCells_keeps _ _ _ _ (Heap.get?_push_of_some _ e)
  have still : ∀ {σ' : L2.St} {H' : Hp} {s' : Shared}, Inv (X.blk u3 G3 scope ce fp) [] σ' H' s' → (∀ b ∈ fp, H' b = none) → ∀ b ∈ fp, FpOk (X.blk u3 G3 scope ce fp) [] H' b := fun {σ' H' s'} I' hn b hb =>
    ⟨hn b hb, (I'.ok.exf b hb).1, I'.ok.exfs b hb, .inl hb, fun x c e => (I'.ok.exf b hb).2 x c e, fun p hp => absurd (show p ∈ ([] : List (Addr × Obj)) ++ [] from hp) (by simp)⟩
  have rounds : codeAny (model X.prog X.w) X.A (.compLoop (.ListComp elt [⟨tg, iter, ifs, 0⟩] scope pos) 0 (.ref it) (.ref L) ce) (compPost (model X.prog X.w) X.A X.xe use Qf (.ref L) u3.heap.objs.size) u4 := by
    refine compLoop_any (fun n s' => ∃ i H', Inv (X.blk u3 G3 scope ce fp) [] (wipe σ (own.map (·.2))) H' s' ∧ tn i s'.heap ∧ (∀ b ∈ fp, H' b = none) ∧ W i n H') ?_ m0 ⟨0, G3, iD, tD, noFp, wA⟩
    rintro n u5 ⟨i, G5, iE, tE, noE, wE⟩
    rcases wTurn i n G5 wE with ⟨stop, qq⟩ | ⟨go, Nx, hNx, oneTurn⟩
    · have td := T.done (X.blk u3 G3 scope ce fp) rfl rfl rfl hc i [] u5 _ G5 (fun _ _ => False) iE (still iE noE) tE stop
      refine thnF td fun r u6 ⟨hr, iF⟩ => ?_
      subst hr
      -- back in the def's context
      have iG : Inv X pins σ G5 u6 := iC.call' (ch := fp) iF.os iF.base iF.hok iF.bare fun b hb => ⟨(fpC b hb).1.2.2.2.1, (fpC b hb).1.2.1, (fpC b hb).1.2.2.2.2.1, (fpC b hb).1.2.2.2.2.2⟩
      have noC : G5 u3.heap.objs.size = none := by
        have z : G5 ce.locals = none := iF.free
        rw [envL] at z
        exact z
      obtain ⟨m, hn, _⟩ := iF.loc
      have hn : u6.heap.Ns ce.locals m := hn
      rw [envL] at hn
      exact hRR L u3.heap.objs.size u6 m G5 iG qq hn (iC.fpOk (Nat.le_refl _) noC)
    · have ti := T.item (X.blk u3 G3 scope ce fp) rfl rfl rfl hc i [] u5 _ G5 (fun _ _ => False) iE (still iE noE) tE go
      refine thnF ti fun r u6 ⟨u, hr, h6⟩ => ?_
      subst hr
      refine thnF h6 fun _ u7 ⟨x, G7, iG, r7, y7, tG, noG⟩ => ?_
      have iG' := iG.pinned (still iG noG) (T.obj _ _ tG)
      refine thnF (pg.run _ u7 _ G7 x u _ iG' r7 (oneTurn x G7 y7)) fun _ u8 ⟨σ8, G8, iH, hw8, q8⟩ => ?_
      refine thnF (pt.run _ u8 σ8 G8 _ iH q8) fun b u9 ⟨G9, iJ, q9⟩ => ?_
      -- the turn's end
      have ending : ∀ {s' : Shared} {H' : Hp}, Inv (X.blk u3 G3 scope ce fp) ([] ++ pinsAt fp u7.heap) σ8 H' s' → Nx H' → ∃ m, m < n ∧ ∃ i H', Inv (X.blk u3 G3 scope ce fp) [] (wipe σ (own.map (·.2))) H' s' ∧ tn i s'.heap ∧ (∀ b ∈ fp, H' b = none) ∧ W i m H' := fun {s' H'} I' nx => by
        obtain ⟨m', hm, w'⟩ := hNx H' nx
        have held : ∀ b ∈ fp, ∀ o, u7.heap.get? b = some o → s'.heap.get? b = some o ∧ H' b = none := fun b hb o e =>
          let z := I'.pin (b, o) (List.mem_append_right _ (List.mem_append_right _ (mem_pinsAt hb e)))
          ⟨z.1, z.2.1⟩
        have hl : (wipe σ (own.map (·.2))).length = σ8.length := by rw [← hw8, wipe_length]
        refine ⟨m', hm, i + 1, H', (I'.unpinned (pins := [])).weak hl (fun j v e => ?_), T.keep _ _ _ tG fun b hb o e => (held b hb o e).1, fun b hb => ?_, w'⟩
        · rw [← hw8] at e
          exact (wipe_some e).1
        · obtain ⟨o, e, _⟩ := T.obj _ _ tG b hb
          exact (held b hb o e).2
      cases b with
      | false =>
        simp only [Bool.false_eq_true, if_false] at q9 ⊢
        exact ending iJ q9
      | true =>
        simp only [if_true] at q9 ⊢
        refine thnF (pe.run _ u9 σ8 G9 _ iJ q9) fun z u10 ⟨yv, G10, iK, r10, acc, hD10, hz10, nx⟩ => ?_
        exact app_ok (X := X.blk u3 G3 scope ce fp) iK hD10 hz10 r10 fun u11 iL => ending iL nx
  exact codeAny_compStart_list rounds (T.self X.A 0 _ _ _ tD rounds)

theorem pe_lcO {wi : TI} {g : TG} {tt : L2.St → TT} {te : TE} (hc : X.calm = true) (hN : X.N.Nodup) (hi : PI X tg iter wi) (ok : BlkOk X.N X.env.scope scope own)
    (hg : ∀ (s : Shared) (H : Hp) (E : Addr) (cl : List (PySem.Str × Addr)) (fp : List Addr), PG (Blk X scope s H E cl fp) tg g)
    (ht : ∀ (pins : List (Addr × Obj)) (σ : L2.St) (s : Shared) (H : Hp) (E : Addr) (cl : List (PySem.Str × Addr)) (fp : List Addr), Inv X pins σ H s → (∀ b ∈ fp, FpOk X pins H b) → PTs (Blk X scope s H E cl fp) ifs (tt σ))
    (he : ∀ (s : Shared) (H : Hp) (E : Addr) (cl : List (PySem.Str × Addr)) (fp : List Addr), PE (Blk X scope s H E cl fp) elt te) (hs : ∀ x, foldedSetIterable iter X.env x = pure x) :
    PE X (.ListComp elt [⟨tg, iter, ifs, 0⟩] scope pos) (fun σ H Q => tLc wi g (tt σ) te (own.map (·.2)) σ H Q) := by
  refine ⟨fun pins s σ H Q I h => ?_⟩
  rw [eval_ListComp]
  refine lc_coreO hc hN I hi ok hg (fun s H E cl fp => ht pins σ s H E cl fp) he hs h fun D C s' m H' I' q hn f => ?_
  exact ⟨m, hn, fun h2 sb => ⟨.ref D, H', I'.turned (t' := s'.toks) (fun b o hb e => (sb.2 b hb).trans e) f.1 f.2.1 f.2.2.2.1 f.2.2.2.2.1 f.2.2.2.2.2, rfl, q⟩⟩
end
end VS
end

section
set_option autoImplicit false
set_option linter.all false
set_option maxRecDepth 20000
/-! VR3: told(f), f a lambda of the def X, asked in a block of X. -/
namespace VS
open PySem PySem.Spec PyProof.Rows L2 LamX

section
variable {X : Cx} {pins : List (Addr × Obj)} {σ : L2.St} {H0 HZ : Hp} {s0 s1 : Shared}
/-- a lambda's frame, entered in s1; the def's cells stand as in s0 -/
theorem lam_startO {A : Around} {outer : List Env} {E : XK} {scope : Scope} {f c2 : Addr} {h1 : Heap} {tk : Nat} (I : Inv X pins σ H0 s0) (L : LamS X.env.scope scope) (e0 : Env0 X.prog X.w X.K X.mg X.base A outer s1 HZ) (hd : A.handled = none)
    (cellK : ∀ y c v, X.env.cells.lookup y = some c → s0.heap.IsCell c v → s1.heap.IsCell c v) (cellN : ∀ y c, X.env.cells.lookup y = some c → HZ c = none)
    (hns : h1.Ns s1.heap.objs.size fun y => ([] : List (PySem.Str × Value)).reverse.lookup y) (kp : ∀ b o, s1.heap.get? b = some o → h1.get? b = some o) :
    Inv (lamCx X A outer s1 HZ E scope f c2) [] σ HZ { s1 with heap := h1, toks := tk } := by
  have caps := L.has I.ok
  have below : ∀ {y c}, (cloFrom X.env.cells scope.names []).lookup y = some c → X.env.cells.lookup y = some c := fun {y c} e => by
    rcases cloFrom_mem (PySem.mem_of_lookup e) with hm | ⟨m, rfl⟩
    · cases hm
    · obtain ⟨c', hc'⟩ := caps _ m rfl
      have hc' : X.env.cells.lookup y = some c' := hc'
      rw [hc']; rfl
  have there : ∀ {y}, scope.names.lookup y = some .free → ∃ c, (cloFrom X.env.cells scope.names []).lookup y = some c :=
    fun {y} hl => mem_lookup (cloFrom_has (cells := X.env.cells) (acc := []) (show (y, NameKind.free) ∈ scope.names from PySem.mem_of_lookup hl))
  have now : ∀ {y c v}, X.env.cells.lookup y = some c → s0.heap.IsCell c v → h1.IsCell c v := fun {y c v} e z => (cellK y c v e z).keeps kp
  have none_ : ∀ b : Addr, b ∉ (lamCx X A outer s1 HZ E scope f c2).ex := fun b z => absurd (show b ∈ ([] : List Addr) from z) (by simp)
  have okC : (lamCx X A outer s1 HZ E scope f c2).Ok := by
    refine ⟨e0.mod, L.kind, rfl, rfl, Nat.le_refl _, fun y z c a b => I.ok.inj y z c (below a) (below b), fun y hy => ?_, fun y c z _ => ?_, fun _ => hd, Around.frames_deeper e0.frames, .inr ⟨rfl, rfl⟩, fun b z => absurd z (none_ b), e0.bs, e0.bsz,
      fun b _ _ => none_ b, fun b z => absurd z (none_ b), e0.funs, e0.frf⟩
    · have hy : scope.names.lookup y = some .cell ∨ scope.names.lookup y = some .free := hy
      exact hy.elim (fun z => absurd rfl (L.own _ (PySem.mem_of_lookup z)).2) there
    · have z : false = true := z
      cases z
  refine ⟨okC, rfl, e0.bare, Un.kept kp, ⟨_, hns, fun i y v e1 e2 e3 => ?_⟩, fun y c e => ?_, e0.hok.fresh (Nat.le_refl _), fun y c e => cellN y c (below e), fun q hq => absurd (show q ∈ ([] : List (Addr × Obj)) ++ [] from hq) (by simp), e0.hok.kept kp, I.len⟩
  · have e3 : Vis scope y := e3
    rcases e3 with k | k | k
    · exact absurd rfl (L.own _ (PySem.mem_of_lookup k)).1
    · exact absurd rfl (L.own _ (PySem.mem_of_lookup k)).2
    · have fk := L.free _ (PySem.mem_of_lookup k) rfl
      obtain ⟨m, _, hl⟩ := I.loc
      obtain ⟨u, r, q⟩ := hl i y v e1 e2 (fk.elim (fun z => .inr (.inl z)) fun z => .inr (.inr z))
      obtain ⟨c, hc⟩ := there k
      refine ⟨u, r, .inr ⟨.inr k, c, hc, ?_⟩⟩
      rcases q with ⟨w, _⟩ | ⟨_, c3, e', z⟩
      · have w : X.env.scope.names.lookup y = some .local := w
        rcases fk with k2 | k2 <;> rw [show X.env.scope.names.lookup y = _ from k2] at w <;> cases w
      · rw [below hc] at e'
        cases e'
        exact now (below hc) z
  · obtain ⟨u, z⟩ := I.cell y c (below e)
    exact ⟨u, now (below e) z⟩
/-- a(), in the def that got the lambda f -/
theorem pe_actO {CXg : CXT} {Eg : XK} {Ng : List PySem.Str} {qg : PySem.Str} {sg : Scope} {g f c2 : Addr} {cdg : Value} {pr : Arguments} {bd : Expr} {scope : Scope} {k i : Nat} {a nm : PySem.Str} {pn : List (Addr × Obj)} {xe : Value → Shared → Prop} {W : WX} {E : XK} {tb : TE} {p1 p2 : Pos} {s : Shared} {H : Hp} {fp : List Addr}
    (I : Inv X pins σ H0 s0) (U : Un (frs X.stack) fp H0 H s0.heap s.heap) (hfp : ∀ y c, X.env.cells.lookup y = some c → c ∉ fp) (L : LamS X.env.scope scope) (hnm : nm = X.env.qual ++ "<lambda>")
    (hbind : ∀ pm ctv, bindArgs (PySem.W.kla_fn "<lambda>" nm pr bd scope (cloFrom X.env.cells scope.names []) pm (.ref c2) ctv) ⟨[], []⟩ = pure [])
    (tk : Takes ((cxOf CXg X.prog X.w X.K X.mg X.base Ng qg sg g cdg X.A X.stack s H Eg).tr pn xe) W) (hW : ∀ cls d σ' H', E cls d H' → W cls d σ' H') (hr : Room (k + 1) (X.A.deeper (envOfC qg sg s.heap.objs.size g cdg)))
    (hbody : ∀ (A : Around) (outer : List Env) (s : Shared) (H : Hp), Room k (A.deeper (lamEnv X scope s.heap.objs.size f c2)) → PE (lamCx X A outer s H E scope f c2) bd tb)
    (hN : Ng[i]? = some a) (hv : Vis sg a) (hd : (a == ("__debug__" : PySem.Str)) = false) (hcd : (a == ("__classdict__" : PySem.Str)) = false) :
    PE ((cxOf CXg X.prog X.w X.K X.mg X.base Ng qg sg g cdg X.A X.stack s H Eg).tr pn xe) (.Call (.Name a p1) [] [] p2)
      (fun σZ HZ Q => σZ[i]? = some (some (.ref f)) ∧ HZ f = some (LamO f nm pr bd scope (cloFrom X.env.cells scope.names []) c2) ∧ HZ c2 = some (CodeO c2 nm) ∧ tb σ HZ Q) := by
  subst hnm
  refine ⟨fun pinsZ sZ σZ HZ Q IZ ⟨hs, hf, hc, ht⟩ => ?_⟩
  refine wpAny_Call_Name_kw (thn ((pe_var (pos := p1) (i := i) hN hv hd hcd).run pinsZ sZ σZ HZ (fun v H1 => v = .ref f ∧ H1 = HZ) IZ ⟨.ref f, hs, rfl, rfl⟩) fun u s1 ⟨v, H1, I1, r1, ev, eH⟩ => ?_)
  subst ev
  rw [eH] at I1
  obtain rfl : u = Value.ref f := r1
  obtain ⟨⟨pm, ctv, of1⟩, _, _⟩ := I1.hok f _ hf
  refine PySem.W.callWith_F0 ⟨_, _, _, _, of1⟩ ?_
  have U2 : Un (frs X.stack) [] H HZ s.heap s1.heap := I1.base
  obtain ⟨⟨oc, vs, t, hoc, hdc, hvc⟩, _, _⟩ := I1.hok c2 _ hc
  have cellN1 : ∀ y c, X.env.cells.lookup y = some c → H c = none := fun y c e => by
    obtain ⟨u, o, ho, _⟩ := I.cell y c e
    exact U.free c o ho (I.freeC y c e) (hfp y c e)
  have step1 : ∀ y c v, X.env.cells.lookup y = some c → s0.heap.IsCell c v → s.heap.IsCell c v := fun y c v e ⟨o, ho, hd⟩ => by
    obtain ⟨sl, q⟩ := U.any ho (I.freeC y c e) (hfp y c e)
    exact ⟨_, q, hd⟩
  have step2 : ∀ y c v, X.env.cells.lookup y = some c → s.heap.IsCell c v → s1.heap.IsCell c v := fun y c v e ⟨o, ho, hd⟩ => by
    obtain ⟨sl, q⟩ := U2.any ho (cellN1 y c e) (by simp)
    exact ⟨_, q, hd⟩
  have cellN2 : ∀ y c, X.env.cells.lookup y = some c → HZ c = none := fun y c e => by
    obtain ⟨u, z⟩ := I.cell y c e
    obtain ⟨o, ho, _⟩ := step1 y c u e z
    exact U2.free c o ho (cellN1 y c e) (by simp)
  have run : codeAny (model X.prog X.w) (X.A.deeper (envOfC qg sg s.heap.objs.size g cdg)) (.call (.ref f) ⟨[], []⟩) (L2.CR (L2.CX X.prog X.w) (envOfC qg sg s.heap.objs.size g cdg :: X.stack) X.prog X.w HZ s1 Q E) s1 := by
    refine PySem.W.kla_callFunE hr.depth of1 rfl L.co L.gen rfl ⟨c2, oc, vs, t, rfl, hoc, hdc, hvc⟩ ?_
    rw [hbind pm ctv]
    refine wpAny_pure (wpAny_newFunctionEnv (fun y hy => (L.own y hy).2) (fun y hy => absurd hy (by simp)) (fun h1 hns hsb => ⟨I1.nolimit.fresh _ hsb, ?_⟩) L.kind)
    show codeAny _ _ (.expr bd (lamEnv X scope s1.heap.objs.size f c2)) _ _
    have J := lam_startO (A := X.A.deeper (envOfC qg sg s.heap.objs.size g cdg)) (outer := envOfC qg sg s.heap.objs.size g cdg :: X.stack) (E := E) (f := f) (c2 := c2) (tk := s1.toks + ([] : List (PySem.Str × Value)).length) I L I1.env0 hr.hd
      (fun y c v e z => step2 y c v e (step1 y c v e z)) cellN2 hns fun b o e => hsb.extBut b o (Nat.ne_of_lt (Heap.lt_size e)) (Heap.get?_push_of_some _ e)
    refine PySem.W.kla_codeExpr (wpAny_mono ((hbody _ _ s1 HZ (hr.deeper _)).run [] _ _ HZ Q J ht) (fun v s' ⟨w, H', J', rv, q⟩ => ?_) fun e s' hq => hq)
    exact ⟨w, H', J'.os, J'.bare, J'.base, J'.hok, rv, q⟩
  have hx : Passes (L2.CX X.prog X.w) ((cxOf CXg X.prog X.w X.K X.mg X.base Ng qg sg g cdg X.A X.stack s H Eg).tr pn xe) E := passes_call tk hW
  refine wpAny_call (codeAny_mono run fun r s' hq => ?_)
  rcases r with e | fl
  · exact hx pinsZ σZ HZ s1 e s' I1 hq
  · cases fl with
    | ret u => exact I1.after hq
    | next => exact hq.elim
    | brk => exact hq.elim
    | cont => exact hq.elim
end
end VS
end

section
set_option autoImplicit false
set_option linter.all false
set_option maxRecDepth 20000
/-! VR4: told(f) != z. -/
namespace VS
open PySem PySem.Spec PyProof.Rows L2 LamX

section
variable {X : Cx} {pins : List (Addr × Obj)} {σ : L2.St} {H0 : Hp} {s0 : Shared}
/-- what told(f) is: f the j-th lambda, run in the def's slots -/
def tTO (K : PySem.W.Frag) (CS : Addr) (z : List Nat) (nm : PySem.Str) (cells : List (PySem.Str × Addr)) (ok : LamOk) (fi : Nat) (tb : Nat → XK → TE) (σ : L2.St) : TE := fun σB H Q => ∃ f j, σB[fi]? = some (some (.ref f)) ∧ LamAt nm cells ok H j f ∧ TTold K CS (tx z) (fun E H' Q' => tb j E σ H' Q') H Q
theorem pe_toldO {scope : Scope} {E0 : Addr} {cl : List (PySem.Str × Addr)} {fp : List Addr} {x a y nm : PySem.Str} {g CS : Addr} {k fi : Nat} {pg : Arguments} {bg : List Stmt} {sg : Scope} {dV kV doc pm cdv ct oc : Value} {an od : Option Addr} {osl : Array (Option Value)} {Ng : List PySem.Str} {ok : LamOk} {z : List Nat} {tb : Nat → XK → TE} {p py pos : Pos}
    (IX : Inv X pins σ H0 s0) (hfp : ∀ b ∈ fp, FpOk X pins H0 b) (hg : Gl (Blk X scope s0 H0 E0 cl fp) x) (hm : X.mg x = some (.ref g)) (hk : PySem.W.keepIn X.K (.ref g) = true) (lk : X.K.lookup g = some ⟨oc, od, .func (PySem.W.fnOf x x pg bg sg dV kV doc pm an cdv ct), osl⟩)
    (hcg : PySem.W.codeIn X.K cdv x = true) (hb : L2.Binds X.K (PySem.W.fnOf x x pg bg sg dV kV doc pm an cdv ct) [a] []) (Sg : FnScope Ng [a] sg) (hNg : Ng[0]? = some a) (hva : Vis sg a) (hnm : nm = X.env.qual ++ "<lambda>") (hG : GivesTo X Ng x sg g cdv bg a nm (TTold X.K CS (tx z)))
    (hr : Room (k + 2) X.A) (hy : X.N[fi]? = some y) (hvy : Vis (relS scope X.env.scope) y)
    (body : ∀ j pr bd lsc, ok j pr bd lsc → LamS X.env.scope lsc ∧ (∀ (q : PySem.Str) (cl : List (PySem.Str × Addr)) (pm cv ctv : Value), bindArgs (PySem.W.kla_fn "<lambda>" q pr bd lsc cl pm cv ctv) ⟨[], []⟩ = pure []) ∧
      ∀ (A : Around) (outer : List Env) (s : Shared) (H : Hp) (E : XK) (f c' : Addr), Room k (A.deeper (lamEnv X lsc s.heap.objs.size f c')) → PE (lamCx X A outer s H E lsc f c') bd (tb j E))
    (hdb : (x == ("__debug__" : PySem.Str)) = false) (hd : (a == ("__debug__" : PySem.Str)) = false) (hcl : (a == ("__classdict__" : PySem.Str)) = false) (hyd : (y == ("__debug__" : PySem.Str)) = false) (hyc : (y == ("__classdict__" : PySem.Str)) = false) :
    PE (Blk X scope s0 H0 E0 cl fp) (.Call (.Name x p) [.Name y py] [] pos) (tTO X.K CS z nm X.env.cells ok fi tb σ) := by
  refine ⟨fun pinsB s σB H Q I ⟨f, j, ef, hf, h⟩ => wpAny_Call_Name_kw (ld_glob I hg hm ?_ hdb)⟩
  refine PySem.W.callWith_K (h₀ := X.base) I.ok.mod.kin hk ?_ (by rfl) (by rfl)
  have arg := pe_var (X := Blk X scope s0 H0 E0 cl fp) (pos := py) (i := fi) hy hvy hyd hyc
  show wpAny _ _ (spliced ((false, eval (.Name y py) (Blk X scope s0 H0 E0 cl fp).env) :: backTo pos (starEach [] (Blk X scope s0 H0 E0 cl fp).env))) _ _ s
  refine Calls.spliced_cons (thn (arg.run pinsB s σB H (fun v H1 => v = .ref f ∧ H1 = H) I ⟨.ref f, ef, rfl, rfl⟩) fun u s1 ⟨v, H1, I1, r1, ev, eH⟩ => Calls.spliced_nil ⟨I1.kIn, ?_⟩)
  subst ev
  rw [eH] at I1
  obtain rfl : u = Value.ref f := r1
  obtain ⟨pr, bd, lsc, c2, hf1, hc2, hok⟩ := hf
  obtain ⟨L, hbind, hbody⟩ := body j pr bd lsc hok
  have U : Un (frs X.stack) fp H0 H s0.heap s1.heap := I1.base
  have run : codeAny (model X.prog X.w) X.A (.call (.ref g) ⟨[.ref f], []⟩) (L2.CR C8.CX0 X.stack X.prog X.w H s1 Q C8.E0) s1 := by
    refine run_ofS (N := Ng) (ps := [a]) (us := [.ref f]) (vs := [.ref f]) lk hcg Sg hr I1.env0 (hb s1 [.ref f] I1.kIn rfl) (.cons rfl .nil) rfl fun hr2 => ?_
    obtain ⟨t2, h2, q2⟩ := hG f c2 s1 H Q (fun E H' Q' => H' f = some (LamO f nm pr bd lsc (cloFrom X.env.cells lsc.names []) c2) ∧ tb j E σ H' Q')
      (fun W pn xe E p1 p2 tk hW => PE.imp (pe_actO (i := 0) IX U (fun y c e hm => (hfp c hm).2.2.2.2.1 y c e rfl) L hnm (fun pm ctv => hbind _ _ _ _ _) tk hW hr2 (fun A outer s H hr3 => hbody A outer s H E f c2 hr3) hNg hva hd hcl)
        fun σZ HZ Q' ⟨q1, q2, q3, q4⟩ => ⟨q1, q3, q2, q4⟩) hc2 ⟨hf1, h⟩
    exact ⟨t2, h2.nox, q2⟩
  refine wpAny_call (codeAny_mono run fun r s3 hq => ?_)
  rcases r with e | fl
  · exact (show False from hq).elim
  · cases fl with
    | ret u => exact I1.after hq
    | next => exact hq.elim
    | brk => exact hq.elim
    | cont => exact hq.elim
end
end VS
end

section
set_option autoImplicit false
set_option linter.all false
set_option maxRecDepth 20000
/-! VR5: the places of the lambdas that are not refused. -/
namespace VS
open PySem PySem.Spec PyProof.Rows L2 LamX

def refEv (x k f n : Nat) (lam : Nat → Rho → R (Ow × VS.D)) (cs z : List Nat) (r : Rho) : R (Ow × VS.D) := match getF r x with
  | some m => if m = n then (inScope (.tup [.nm k, .nm f]) [] r fun r2 => evR lam cs z 0 n r2).bind fun ds r' => .ok (.own, .lst ds) r' else .no
  | none => .no
section
variable {C : RC} {Z Z' : Addr → Prop} {ρ ρ1 ρ' ρi : Rho} {σ σw : L2.St} {H H1 H2 H' : Hp} {ns : List Nat}
/-- one step on that stores no name -/
theorem LS.next (l : LS C Z ρ σ H ns ρi H') (f : Fr ρi (wipe σ ns) H' H2) (m : Mono ρi ρ') (r : Rel C Z' ρ' (wipe σ ns) H2) : LS C Z' ρ σ H ns ρ' H2 := by
  refine ⟨l.sfr.trans (.exp f m), r, fun j s h => ?_, fun j s n h => ?_⟩
  · obtain ⟨s1, e1, p1, f1, d1⟩ := m.bk j s h
    obtain ⟨n, s0, e0, p0, f0, d0⟩ := l.bk j s1 e1
    refine ⟨n, s0, e0, p1.trans p0, ?_, fun w => ?_⟩
    · rcases f1 with f1 | ⟨f1, n1⟩
      · rw [f1]; exact f0
      · refine .inr ⟨f1, ?_⟩
        rcases f0 with f0 | ⟨_, f0⟩
        · rw [← f0]; exact n1
        · exact f0
    · refine (d1 ?_).trans (d0 w)
      rcases f0 with f0 | ⟨f0, _⟩
      · rw [f0]; exact w
      · rw [f0]; decide
  · obtain ⟨s1, e1⟩ := l.fw j s n h
    exact m.fw j s1 e1
/-- tracked things of the kit's own kinds stay -/
theorem LS.ext (l : LS C Z ρ σ H ns ρi H') (f : Fr ρi (wipe σ ns) H' H2) : ∀ b o, H' b = some o → (∃ φ, o = .ext φ) → H2 b = some o := fun b o e ⟨φ, z⟩ => by
  refine f.kp b o e (fun ps w => by rw [z] at w; cases w) fun w => ?_
  obtain ⟨o', e', q⟩ := l.rel.ownThere w
  rw [e] at e'; cases e'
  rw [z] at q
  rcases q with ⟨_, q⟩ | ⟨_, q⟩ | ⟨_, q⟩ <;> cases q
end
section
variable {K : PySem.W.Frag} {cv : Nat → Value} {T : Tbs} {nm : PySem.Str} {cells : List (PySem.Str × Addr)} {ok : LamOk} {W : WX} {σ : L2.St} {H : Hp} {Q : VK} {x k f n : Nat} {lam : Nat → Rho → R (Ow × VS.D)} {cs z : List Nat} {CS : Addr}
theorem imp_refused (hcs : ∀ c ∈ cs, PySem.W.exmOne K (cv c) (.ref CS) = some true) (hkf : k ≠ f) (hz : n ≤ sizeLine) (hzs : shal 8 (.str z) = true) (h : tX (CL K cv T nm cells ok) W (refEv x k f n lam cs z) (GE (CL K cv T nm cells ok)) σ H Q) (hk : k < σ.length) (hf : f < σ.length) :
    tLc (iEnum K (tCons (tVar x) tNil)) (gTup K 2 (gCons (gName k) (gCons (gName f) gNil)))
      (tTest (tOp (rC K (cmpD .ne)) (tTO K CS z nm cells ok f (fun j E => tX (CL K cv T nm cells ok) (fun cls d _ H' => E cls d H') (lam j) (GE (CL K cv T nm cells ok))) (wipe σ [k, f])) (tC (.str (tx z))))) (tVar k) [k, f] σ H Q := by
  obtain ⟨Z, ρ, r, h⟩ := h
  unfold refEv at h
  cases e0 : getF ρ x with
  | none => simp only [e0] at h
  | some m =>
    simp only [e0] at h
    by_cases hm : m = n
    · subst hm
      simp only [if_true] at h
      unfold inScope at h
      cases hv : saveAll ρ (namesT (.tup [.nm k, .nm f])) with
      | none => simp only [hv, R.bind] at h
      | some sv =>
        simp only [hv, lendAll] at h
        have hns : namesT (.tup [.nm k, .nm f]) = [k, f] := by simp [namesT, namesTs]
        rw [hns] at hv h
        cases hr : evR lam cs z 0 m (wipeAll ρ [k, f]) with
        | no => simp only [hr, R.bind] at h
        | ex c r' => simp only [hr, R.bind] at h
        | ok rs ρe =>
          simp only [hr, R.bind, unlend] at h
          -- the list
          unfold getF at e0
          split at e0
          · rename_i pp nn e1
            cases e0
            obtain ⟨n0, v, d1, ev, ⟨a, fs, rfl, ha, hn, hfs⟩, hpv⟩ := r.fns x _ e1 rfl
            have en : n0 = nn.toNat := by
              have : VS.D.int nn = VS.D.int n0 := d1
              cases this; simp
            obtain ⟨_, nZ, nP⟩ := hpv a rfl
            refine ⟨.ref a, ev, a, fs.map V.ref, rfl, .inl (.inl ha), fun E hE => ?_⟩
            let C := CL K cv T nm cells ok
            refine ⟨fun i m' H' => i ≤ nn.toNat ∧ m' = nn.toNat - i ∧ ∃ ρi acc vs rest, LS C (zAnd Z E) ρ σ H [k, f] ρi H' ∧ H' E = some (.lst vs) ∧ RpL K (Av (zAnd Z E) ρi (wipe σ [k, f])) H' acc vs ∧ acc.length ≤ i ∧ evR lam cs z i (nn.toNat - i) ρi = .ok rest ρe ∧ acc ++ rest = rs ∧
                H' a = some (.lst (fs.map V.ref)) ∧ LamsAt nm cells ok H' 0 fs,
              ⟨_, Nat.zero_le _, rfl, wipeAll ρ [k, f], [], [], rs, ⟨SFr.wipe.trans (.exp (.grow (Grow.new hE)) (.refl _)), r.wipe.addZ hE, fun j s q => ?_, fun j s q w => ⟨s, by rw [wipeA_ne q]; exact w⟩⟩, upd_same, RpL.nil, Nat.le_refl _, hr, rfl, by rw [upd_ne (ne_of_none ha hE)]; exact ha,
                hfs.keep fun b o e _ => by rw [upd_ne (ne_of_none e hE)]; exact e⟩, ?_⟩
            · obtain ⟨q1, q2⟩ := wipeA_at q
              exact ⟨q1, s, q2, rfl, .inl rfl, fun _ => rfl⟩
            rintro i m' H' ⟨hi, rfl, ρi, acc, vs, rest, l, eE, q, hl, he, hs, hA, hF⟩
            by_cases hlt : i < nn.toNat
            · refine .inr ?_
              have lf : i < fs.length := by rw [hn, en]; exact hlt
              have efi : (fs.map V.ref)[i]? = some (V.ref fs[i]) := by rw [List.getElem?_map, List.getElem?_eq_getElem lf]; rfl
              have hFi := hF.get (List.getElem?_eq_getElem lf)
              rw [Nat.zero_add] at hFi
              refine ⟨⟨_, _, .inl (.inl hA), efi⟩, fun H2 => i + 1 ≤ nn.toNat ∧ ∃ ρi acc vs rest, LS C (zAnd Z E) ρ σ H [k, f] ρi H2 ∧ H2 E = some (.lst vs) ∧ RpL K (Av (zAnd Z E) ρi (wipe σ [k, f])) H2 acc vs ∧ acc.length ≤ i + 1 ∧ evR lam cs z (i + 1) (nn.toNat - (i + 1)) ρi = .ok rest ρe ∧ acc ++ rest = rs ∧
                  H2 a = some (.lst (fs.map V.ref)) ∧ LamsAt nm cells ok H2 0 fs, fun H2 w => ⟨nn.toNat - (i + 1), by omega, w.1, rfl, w.2⟩, ?_⟩
              rintro _ _ ⟨U, xv, rfl, nU, rfl, hx⟩
              have exv : xv = V.ref fs[i] := by
                have := hx _ (.inl (.inl hA))
                rw [efi] at this
                cases this; rfl
              subst exv
              refine ⟨U, _, rfl, SqT.of upd_same, rfl, .int i, _, rfl, V.ref fs[i], [], rfl, rfl, ?_⟩
              have lk : k < (wipe σ [k, f]).length := by rw [wipe_length]; exact hk
              have lfk : f < ((wipe σ [k, f]).set k (some (.int i))).length := by simp [wipe_length]; exact hf
              refine ⟨wipe_eq (fun j hj => ?_) (by simp [wipe_length]), ?_⟩
              · simp only [List.mem_cons, List.not_mem_nil, or_false, not_or] at hj
                rw [List.getElem?_set_ne (Ne.symm hj.2), List.getElem?_set_ne (Ne.symm hj.1)]
              have g2 : Grow H' (upd H' U (.tup [.int i, .ref fs[i]])) := Grow.new nU
              have r2 := l.rel.grow g2
              have keepF : LamAt nm cells ok (upd H' U (.tup [.int i, .ref fs[i]])) i fs[i] := hFi.keep fun b o e _ => g2 b o e
              refine ⟨fs[i], i, by rw [List.getElem?_set_self lfk], keepF, ?_⟩
              -- behind the lambda
              have fin : ∀ {ρ' : Rho} {H3 : Hp}, Fr ρi (wipe σ [k, f]) (upd H' U (.tup [.int i, .ref fs[i]])) H3 → Mono ρi ρ' → Rel C (zAnd Z E) ρ' (wipe σ [k, f]) H3 →
                  LS C (zAnd Z E) ρ σ H [k, f] ρ' H3 ∧ H3 E = some (.lst vs) ∧ RpL K (Av (zAnd Z E) ρ' (wipe σ [k, f])) H3 acc vs ∧ H3 a = some (.lst (fs.map V.ref)) ∧ LamsAt nm cells ok H3 0 fs := fun {ρ' H3} fr m r3 => by
                have fr' : Fr ρi (wipe σ [k, f]) H' H3 := (Fr.grow g2).trans (.refl _) fr
                have l' := l.next fr' m r3
                have stays : ∀ b vs', H' b = some (.lst vs') → ¬ Priv ρi (wipe σ [k, f]) b → H3 b = some (.lst vs') := fun b vs' e w => fr'.kp b _ e (fun ps z => by cases z) fun u => w u.priv
                refine ⟨l', stays E _ eE fun w => l.rel.privZ w (.inr rfl), ?_, stays a _ hA fun w => ?_, hF.keep (l.ext fr')⟩
                · refine RpL.keep (l.rel.keep fr') (fun b ⟨o, eo⟩ p => ⟨p.1, fun w => p.2 (m.priv w)⟩) _ _ q
                · rcases l.sfr.priv a w with w | w
                  · exact nP w
                  · rw [ha] at w; cases w
              -- the step
              obtain ⟨d, hd⟩ : ∃ d, nn.toNat - i = d + 1 := ⟨nn.toNat - (i + 1), by omega⟩
              have hd' : nn.toNat - (i + 1) = d := by omega
              rw [hd] at he
              simp only [evR] at he
              refine ⟨zAnd Z E, ρi, r2, ?_⟩
              cases eL : lam i ρi with
              | no => rw [eL] at he; cases he
              | ok v ρ' =>
                simp only [eL] at he
                intro y H3 pe
                have vv := pe.val r2
                obtain ⟨l3, eE3, q3, hA3, hF3⟩ := fin pe.fr pe.mono vv.1
                cases ec : cmpD .ne v.2 (.str z) with
                | none => simp only [ec] at he; cases he
                | some b =>
                  simp only [ec] at he
                  refine ⟨_, v.2, .str z, b, .inl vv.2, .inl (by simp only [Rp]; rfl), ec, b, rfl, ?_⟩
                  cases hev : evR lam cs z (i + 1) d ρ' with
                  | no => simp only [hev, R.bind] at he; cases he
                  | ex c r' => simp only [hev, R.bind] at he; cases he
                  | ok rest' r' =>
                    simp only [hev, R.bind] at he
                    cases he
                    cases b with
                    | false =>
                      rw [if_neg (by decide)]
                      refine ⟨hlt, ρ', acc, vs, rest', l3, eE3, q3, Nat.le_succ_of_le hl, by rw [hd']; exact hev, by simpa using hs, hA3, hF3⟩
                    | true =>
                      rw [if_pos rfl]
                      have ql := q3.length
                      refine ⟨.int i, ?_, vs, eE3, by omega, hlt, ρ', acc ++ [.int (i : Nat)], vs ++ [.int i], rest', l3.upd (.inr rfl) hE eE3, upd_same, ?_, by simp; omega, by rw [hd']; exact hev, by simpa using hs, ?_, ?_⟩
                      · rw [List.getElem?_set_ne (Ne.symm hkf), List.getElem?_set_self lk]
                      · exact RpL.keep (keepOut (.inr rfl) eE3) (fun _ _ u => u) _ _ (q3.append (RpL.cons (by simp only [Rp]) RpL.nil))
                      · have nE : a ≠ E := ne_of_none ha hE
                        rw [upd_ne nE]; exact hA3
                      · refine hF3.keep fun b o e ⟨φ, w⟩ => ?_
                        have nE : b ≠ E := fun u => by rw [u, eE3] at e; rw [w] at e; cases e
                        rw [upd_ne nE]; exact e
              | ex c ρ' =>
                simp only [eL] at he
                intro H3 px
                by_cases hc : cs.contains c = true
                · rw [if_pos hc] at he
                  obtain ⟨l3, eE3, q3, hA3, hF3⟩ := fin px.fr px.mono px.rel
                  refine ⟨true, hcs c (by simpa using hc), fun _ => ?_, fun w => by cases w⟩
                  have ec : cmpD .ne (.str z) (.str z) = some false := by simp [cmpD, hzs, peq]
                  refine ⟨fun _ => True, .str z, .str z, false, .inl (by simp only [Rp]; rfl), .inl (by simp only [Rp]; rfl), ec, false, rfl, ?_⟩
                  dsimp only
                  rw [if_neg (by decide)]
                  exact ⟨hlt, ρ', acc, vs, rest, l3, eE3, q3, Nat.le_succ_of_le hl, by rw [hd']; exact he, hs, hA3, hF3⟩
                · rw [if_neg hc] at he
                  cases he
            · have ei : i = nn.toNat := by omega
              subst ei
              rw [Nat.sub_self] at he
              simp only [evR] at he
              cases he
              rw [List.append_nil] at hs
              subst hs
              refine .inl ⟨⟨_, .inl (.inl hA), by simp [hn, en]⟩, h (.ref E) H' ?_⟩
              obtain ⟨sf, rb, mb, pb⟩ := l.back r (fun b z => z.imp id fun z => by rw [z]; exact hE) hv (fun j m => rfl) rfl
              exact ⟨sf.fr, mb, E, rfl, hE, rb, vs, eE, RpL.keep (fun _ _ e _ => e) (fun b _ u => ⟨u.1, fun w => u.2 (pb b w)⟩) _ _ q⟩
          · cases e0
    · rw [if_neg hm] at h
      exact h.elim
end
end VS
end

section
set_option autoImplicit false
set_option linter.all false
set_option maxRecDepth 20000
/-! VR6: the judgement of the refused ones. -/
namespace VS
open PySem PySem.Spec PyProof.Rows L2 LamX

/-- told's def, for lambdas of X -/
structure ToldD (X : Cx) (x nm : PySem.Str) (CS : Addr) (z : List Nat) (a : PySem.Str) (g : Addr) (pg : Arguments) (bg : List Stmt) (sg : Scope) (dV kV doc pm cdv ct oc : Value) (an od : Option Addr) (osl : Array (Option Value)) (Ng : List PySem.Str) : Prop where
  hm : X.mg x = some (.ref g)
  hk : PySem.W.keepIn X.K (.ref g) = true
  lk : X.K.lookup g = some ⟨oc, od, .func (PySem.W.fnOf x x pg bg sg dV kV doc pm an cdv ct), osl⟩
  hcg : PySem.W.codeIn X.K cdv x = true
  hb : L2.Binds X.K (PySem.W.fnOf x x pg bg sg dV kV doc pm an cdv ct) [a] []
  Sg : FnScope Ng [a] sg
  hNg : Ng[0]? = some a
  hva : Vis sg a
  hG : GivesTo X Ng x sg g cdv bg a nm (TTold X.K CS (tx z))
  hnm : nm = X.env.qual ++ "<lambda>"
  hdb : (x == ("__debug__" : PySem.Str)) = false
  hd : (a == ("__debug__" : PySem.Str)) = false
  hcl : (a == ("__classdict__" : PySem.Str)) = false
section
variable {X : Cx} {cv : Nat → Value} {T : Tbs} {nm : PySem.Str} {ok : LamOk} {x k f n : Nat} {lam : Nat → Rho → R (Ow × VS.D)} {cs z : List Nat} {CS : Addr} {told yk yf yx : PySem.Str} {scope : Scope} {kr : Nat}
  {a : PySem.Str} {g : Addr} {pg : Arguments} {bg : List Stmt} {sg : Scope} {dV kV doc pm cdv ct oc : Value} {an od : Option Addr} {osl : Array (Option Value)} {Ng : List PySem.Str} {p0 p1 p2 p3 p4 p5 p6 p7 p8 p9 p10 p11 p12 : Pos} {kk j : Nat}
theorem se_refused (D : ToldD X told nm CS z a g pg bg sg dV kV doc pm cdv ct oc an od osl Ng) (hcs : ∀ c ∈ cs, PySem.W.exmOne X.K (cv c) (.ref CS) = some true) (hkf : k ≠ f) (hz : n ≤ sizeLine) (hzs : shal 8 (.str z) = true) (hc : X.calm = true) (hN : X.N.Nodup) (hr : Room (kr + 2) X.A) (hu : X.A.units + 65 < cLine)
    (hge : Gl X "enumerate") (hme : X.mg "enumerate" = none) (ok_ : BlkOk X.N X.env.scope scope [(yk, k), (yf, f)]) (hyx : X.N[x]? = some yx) (hvx : Vis X.env.scope yx) (hdx : (yx == ("__debug__" : PySem.Str)) = false) (hcx : (yx == ("__classdict__" : PySem.Str)) = false)
    (hk : X.N[k]? = some yk) (hf : X.N[f]? = some yf) (hlk : Loc (relS scope X.env.scope) yk) (hlf : Loc (relS scope X.env.scope) yf) (hpk : (scope.names.lookup yk == some .cell) = true ∨ (relS scope X.env.scope).names.lookup yk = some .local) (hpf : (scope.names.lookup yf == some .cell) = true ∨ (relS scope X.env.scope).names.lookup yf = some .local)
    (hdk : (yk == ("__debug__" : PySem.Str)) = false) (hck : (yk == ("__classdict__" : PySem.Str)) = false) (hdf : (yf == ("__debug__" : PySem.Str)) = false) (hcf : (yf == ("__classdict__" : PySem.Str)) = false) (hgt : (relS scope X.env.scope).names.lookup told = some .globalImplicit)
    (body : ∀ i pr bd lsc, ok i pr bd lsc → LamS X.env.scope lsc ∧ (∀ (q : PySem.Str) (cl : List (PySem.Str × Addr)) (pm cv ctv : Value), bindArgs (PySem.W.kla_fn "<lambda>" q pr bd lsc cl pm cv ctv) ⟨[], []⟩ = pure []) ∧
      ∀ (A : Around) (outer : List Env) (s : Shared) (H : Hp) (E : XK) (f c' : Addr), Room kr (A.deeper (lamEnv X lsc s.heap.objs.size f c')) → SE (CL X.K cv T nm X.env.cells ok) (lamCx X A outer s H E lsc f c') bd (lam i)) :
    SE (CL X.K cv T nm X.env.cells ok) X (.ListComp (.Name yk p0) [⟨.Tuple [.Name yk p1, .Name yf p2] kk p3, .Call (.Name "enumerate" p4) [.Name yx p5] [] p6, [.Compare (.Call (.Name told p7) [.Name yf p8] [] p9) [.NotEq] [.Constant (.str (tx z)) j p10] p11], 0⟩] scope p12) (refEv x k f n lam cs z) := by
  intro W tk
  have hi := pi_enum (X := X) (e := .Name yx p5) (p := p4) (pos := p6) (tpos := p3) (elts := [.Name yk p1, .Name yf p2]) (kk := kk) hge hme (pa_cons (pe_var (pos := p5) (i := x) hyx hvx hdx hcx) pa_nil)
  have base := pe_lcO (X := X) (elt := .Name yk p0) (scope := scope) (own := [(yk, k), (yf, f)]) (pos := p12) (ifs := [.Compare (.Call (.Name told p7) [.Name yf p8] [] p9) [.NotEq] [.Constant (.str (tx z)) j p10] p11])
    (g := gTup X.K 2 (gCons (gName k) (gCons (gName f) gNil))) (te := tVar k)
    (tt := fun σ => tTest (tOp (rC X.K (cmpD .ne)) (tTO X.K CS z nm X.env.cells ok f (fun j E => tX (CL X.K cv T nm X.env.cells ok) (fun cls d _ H' => E cls d H') (lam j) (GE (CL X.K cv T nm X.env.cells ok))) (wipe σ [k, f])) (tC (.str (tx z)))))
    hc hN hi ok_ (fun s H E cl fp => ?_) (fun pins σ s H E cl fp IX hfp => ?_) (fun s H E cl fp => ?_) (fun v => by rfl)
  · refine ⟨fun pins s σ H Q I h => base.run pins s σ H Q I ?_⟩
    exact imp_refused (K := X.K) hcs hkf hz hzs h (by rw [I.len]; exact (List.getElem?_eq_some_iff.1 hk).1) (by rw [I.len]; exact (List.getElem?_eq_some_iff.1 hf).1)
  · exact pg_tup (X := Blk X scope s H E cl fp) hc (pgs_cons (pg_name hN hk hlk hpk) (pgs_cons (pg_name hN hf hlf hpf) pgs_nil))
  · have IW : Inv X pins (wipe σ [k, f]) H s := IX.weak (wipe_length _ _) fun i v e => (wipe_some e).1
    refine pts_one (pt_cmpR (X := Blk X scope s H E cl fp) (op_neC hu) (pe_toldO IW hfp hgt D.hm D.hk D.lk D.hcg D.hb D.Sg D.hNg D.hva D.hnm D.hG hr hf (hlf.elim .inl fun z => .inr (.inl z)) (fun i pr bd lsc h => ?_) D.hdb D.hd D.hcl hdf hcf) pe_str (by rfl))
    obtain ⟨L, hb, h⟩ := body i pr bd lsc h
    exact ⟨L, hb, fun A outer s H E f c' r => h A outer s H E f c' r _ lam_takes⟩
  · exact pe_var (X := Blk X scope s H E cl fp) (i := k) hk (hlk.elim .inl fun z => .inr (.inl z)) hdk hck
end
end VS
end

section
set_option autoImplicit false
set_option linter.all false
/-! VMat: the own tree and the given tree, held beside each other. -/
namespace VS
open PySem PySem.Spec PyProof.Rows L2

/-! ### views of the given tree -/
def asCon : Expr → Option Const
  | .Constant c _ _ => some c
  | _ => none
def asName : Expr → Option PySem.Str
  | .Name x _ => some x
  | _ => none
def asTup : Expr → Option (List Expr)
  | .Tuple xs _ _ => some xs
  | _ => none
def asLst : Expr → Option (List Expr)
  | .List xs _ => some xs
  | _ => none
def asBin : Expr → Option (Expr × Operator × Expr)
  | .BinOp a o b _ => some (a, o, b)
  | _ => none
def asNeg : Expr → Option Expr
  | .UnaryOp .USub a _ => some a
  | _ => none
def asNot : Expr → Option Expr
  | .UnaryOp .Not a _ => some a
  | _ => none
def asCmp : Expr → Option (Expr × CmpOp × Expr)
  | .Compare a [o] [b] _ => some (a, o, b)
  | _ => none
def asCmp2 : Expr → Option (Expr × CmpOp × Expr × CmpOp × Expr)
  | .Compare a [o, o'] [b, c] _ => some (a, o, b, o', c)
  | _ => none
def asAnd : Expr → Option (List Expr)
  | .BoolOp .And xs _ => some xs
  | _ => none
def asOr : Expr → Option (List Expr)
  | .BoolOp .Or xs _ => some xs
  | _ => none
def asIfe : Expr → Option (Expr × Expr × Expr)
  | .IfExp c a b _ => some (c, a, b)
  | _ => none
def asIdx : Expr → Option (Expr × Expr)
  | .Subscript a b _ => if noSlc b then some (a, b) else none
  | _ => none
def asSlc : Expr → Option (Expr × Option Expr × Option Expr)
  | .Subscript a (.Slice lo hi none _) _ => some (a, lo, hi)
  | _ => none
def asRev : Expr → Option Expr
  | .Subscript a (.Slice none none (some (.UnaryOp .USub (.Constant (.int 1) _ _) _)) _) _ => some a
  | _ => none
def asCall : Expr → Option (PySem.Str × List Expr)
  | .Call (.Name x _) xs [] _ => some (x, xs)
  | _ => none
def asLc : Expr → Option (Expr × Expr × Expr × List Expr × Scope)
  | .ListComp e [⟨tg, it, ifs, 0⟩] sc _ => some (e, tg, it, ifs, sc)
  | _ => none
def asFst : Expr → Option (List Expr)
  | .JoinedStr xs _ => some xs
  | _ => none
def asFmt : Expr → Option Expr
  | .FormattedValue e (-1) none _ => some e
  | _ => none
def asLam : Expr → Option (Arguments × Expr × Scope × Pos)
  | .Lambda ar b sc p => some (ar, b, sc, p)
  | _ => none
def asGen : Expr → Option (Expr × Expr × Expr × List Expr × Scope × Pos)
  | .GeneratorExp e [⟨tg, it, ifs, 0⟩] sc p => some (e, tg, it, ifs, sc, p)
  | _ => none
/-- the parts of the idiom of the refused ones -/
structure RefP where
  yk : PySem.Str
  yk1 : PySem.Str
  yf : PySem.Str
  en : PySem.Str
  yx : PySem.Str
  told : PySem.Str
  yf2 : PySem.Str
  z : PySem.Str
  scope : Scope
def asRef : Expr → Option RefP
  | .ListComp (.Name yk _) [⟨.Tuple [.Name yk1 _, .Name yf _] _ _, .Call (.Name en _) [.Name yx _] [] _, [.Compare (.Call (.Name told _) [.Name yf2 _] [] _) [.NotEq] [.Constant (.str z) _ _] _], 0⟩] scope _ => some ⟨yk, yk1, yf, en, yx, told, yf2, z, scope⟩
  | _ => none
section
variable {x : Expr}
theorem asCon_eq {c : Const} (h : asCon x = some c) : ∃ k p, x = .Constant c k p := by
  unfold asCon at h; split at h <;> cases h; exact ⟨_, _, rfl⟩
theorem asName_eq {n : PySem.Str} (h : asName x = some n) : ∃ p, x = .Name n p := by
  unfold asName at h; split at h <;> cases h; exact ⟨_, rfl⟩
theorem asTup_eq {xs : List Expr} (h : asTup x = some xs) : ∃ k p, x = .Tuple xs k p := by
  unfold asTup at h; split at h <;> cases h; exact ⟨_, _, rfl⟩
theorem asLst_eq {xs : List Expr} (h : asLst x = some xs) : ∃ p, x = .List xs p := by
  unfold asLst at h; split at h <;> cases h; exact ⟨_, rfl⟩
theorem asBin_eq {a b : Expr} {o : Operator} (h : asBin x = some (a, o, b)) : ∃ p, x = .BinOp a o b p := by
  unfold asBin at h; split at h <;> cases h; exact ⟨_, rfl⟩
theorem asNeg_eq {a : Expr} (h : asNeg x = some a) : ∃ p, x = .UnaryOp .USub a p := by
  unfold asNeg at h; split at h <;> cases h; exact ⟨_, rfl⟩
theorem asNot_eq {a : Expr} (h : asNot x = some a) : ∃ p, x = .UnaryOp .Not a p := by
  unfold asNot at h; split at h <;> cases h; exact ⟨_, rfl⟩
theorem asCmp_eq {a b : Expr} {o : CmpOp} (h : asCmp x = some (a, o, b)) : ∃ p, x = .Compare a [o] [b] p := by
  unfold asCmp at h; split at h <;> cases h; exact ⟨_, rfl⟩
theorem asCmp2_eq {a b c : Expr} {o o' : CmpOp} (h : asCmp2 x = some (a, o, b, o', c)) : ∃ p, x = .Compare a [o, o'] [b, c] p := by
  unfold asCmp2 at h; split at h <;> cases h; exact ⟨_, rfl⟩
theorem asAnd_eq {xs : List Expr} (h : asAnd x = some xs) : ∃ p, x = .BoolOp .And xs p := by
  unfold asAnd at h; split at h <;> cases h; exact ⟨_, rfl⟩
theorem asOr_eq {xs : List Expr} (h : asOr x = some xs) : ∃ p, x = .BoolOp .Or xs p := by
  unfold asOr at h; split at h <;> cases h; exact ⟨_, rfl⟩
theorem asIfe_eq {a b c : Expr} (h : asIfe x = some (c, a, b)) : ∃ p, x = .IfExp c a b p := by
  unfold asIfe at h; split at h <;> cases h; exact ⟨_, rfl⟩
theorem asIdx_eq {a b : Expr} (h : asIdx x = some (a, b)) : noSlc b = true ∧ ∃ p, x = .Subscript a b p := by
  unfold asIdx at h; split at h
  · split at h <;> cases h; rename_i n; exact ⟨n, _, rfl⟩
  · cases h
theorem asSlc_eq {a : Expr} {lo hi : Option Expr} (h : asSlc x = some (a, lo, hi)) : ∃ p2 p, x = .Subscript a (.Slice lo hi none p2) p := by
  unfold asSlc at h; split at h <;> cases h; exact ⟨_, _, rfl⟩
theorem asRev_eq {a : Expr} (h : asRev x = some a) : ∃ k p1 p2 p3 p, x = .Subscript a (.Slice none none (some (.UnaryOp .USub (.Constant (.int 1) k p1) p2)) p3) p := by
  unfold asRev at h; split at h <;> cases h; exact ⟨_, _, _, _, _, rfl⟩
theorem asCall_eq {n : PySem.Str} {xs : List Expr} (h : asCall x = some (n, xs)) : ∃ p1 p, x = .Call (.Name n p1) xs [] p := by
  unfold asCall at h; split at h <;> cases h; exact ⟨_, _, rfl⟩
theorem asLc_eq {e tg it : Expr} {ifs : List Expr} {sc : Scope} (h : asLc x = some (e, tg, it, ifs, sc)) : ∃ p, x = .ListComp e [⟨tg, it, ifs, 0⟩] sc p := by
  unfold asLc at h; split at h <;> cases h; exact ⟨_, rfl⟩
theorem asFst_eq {xs : List Expr} (h : asFst x = some xs) : ∃ p, x = .JoinedStr xs p := by
  unfold asFst at h; split at h <;> cases h; exact ⟨_, rfl⟩
theorem asFmt_eq {a : Expr} (h : asFmt x = some a) : ∃ p, x = .FormattedValue a (-1) none p := by
  unfold asFmt at h; split at h <;> cases h; exact ⟨_, rfl⟩
theorem asLam_eq {ar : Arguments} {b : Expr} {sc : Scope} {p : Pos} (h : asLam x = some (ar, b, sc, p)) : x = .Lambda ar b sc p := by
  unfold asLam at h; split at h <;> cases h; rfl
theorem asGen_eq {e tg it : Expr} {ifs : List Expr} {sc : Scope} {p : Pos} (h : asGen x = some (e, tg, it, ifs, sc, p)) : x = .GeneratorExp e [⟨tg, it, ifs, 0⟩] sc p := by
  unfold asGen at h; split at h <;> cases h; rfl
theorem asRef_eq {q : RefP} (h : asRef x = some q) : ∃ p0 p1 p2 kk p3 p4 p5 p6 p7 p8 p9 j p10 p11 p12, x = .ListComp (.Name q.yk p0) [⟨.Tuple [.Name q.yk1 p1, .Name q.yf p2] kk p3, .Call (.Name q.en p4) [.Name q.yx p5] [] p6, [.Compare (.Call (.Name q.told p7) [.Name q.yf2 p8] [] p9) [.NotEq] [.Constant (.str q.z) j p10] p11], 0⟩] q.scope p12 := by
  unfold asRef at h; split at h <;> cases h; exact ⟨_, _, _, _, _, _, _, _, _, _, _, _, _, _, _, rfl⟩
end
end VS
end

section
set_option autoImplicit false
set_option linter.all false
/-! VM2: the checker of expressions. -/
namespace VS
open PySem PySem.Spec PyProof.Rows L2 LamX

def noSet : Expr → Bool
  | .Set .. => false
  | _ => true
theorem fold_no {e : Expr} (h : noSet e = true) (env : Env) (x : Value) : foldedSetIterable e env x = pure x := by
  cases e <;> first | rfl | simp [noSet] at h
/-- what may stand here: told(lambda), generator expressions (at the places G), the list of lambdas -/
structure Wh where
  tl : Bool
  ge : Bool
  rf : Bool
  G : List (Nat × Nat)
def Wh.no : Wh := ⟨false, false, false, []⟩
def Wh.blk (w : Wh) : Wh := { w with rf := false }
/-- what a def's check goes by: the slots' names, the defs' names and counts, told's name, what it swallows; the bodies of its lambdas -/
structure ME where
  N : List PySem.Str
  fs : Nat → Option (PySem.Str × Nat)
  told : PySem.Str
  cs : List Nat
  z : List Nat
  tl : Wh
  ol : List Ex
def locB (sc : Scope) (x : PySem.Str) : Bool := decide (sc.names.lookup x = some .local) || decide (sc.names.lookup x = some .cell)
def visB (sc : Scope) (x : PySem.Str) : Bool := locB sc x || decide (sc.names.lookup x = some .free)
theorem locB_ok {sc : Scope} {x : PySem.Str} (h : locB sc x = true) : L2.Loc sc x := by
  simpa [locB, L2.Loc] using h
theorem visB_ok {sc : Scope} {x : PySem.Str} (h : visB sc x = true) : Vis sc x := by
  simpa [visB, locB, L2.Vis, or_assoc] using h
def glB (sc : Scope) (x : PySem.Str) : Bool := decide (sc.names.lookup x = some .globalImplicit)
def okN (x : PySem.Str) : Bool := !(x == ("__debug__" : PySem.Str)) && !(x == ("__classdict__" : PySem.Str)) && !decide (x = ("__name__" : PySem.Str))
def varB (M : ME) (sc : Scope) (i : Nat) (x : PySem.Str) : Bool := decide (M.N[i]? = some x) && visB sc x && okN x
def biN : Bi → PySem.Str
  | .len => "len" | .sum => "sum" | .sum2 => "sum" | .min => "min" | .max => "max" | .sorted => "sorted" | .list => "list" | .tuple => "tuple" | .abs => "abs" | .int => "int" | .str => "str" | .dict => "dict" | .range1 => "range" | .range2 => "range"
def biOk : Bi → Bool
  | .sum2 | .dict | .range1 | .range2 => false
  | _ => true
def all2 {α β : Type} (p : α → β → Bool) : List α → List β → Bool
  | [], [] => true
  | a :: as, b :: bs => p a b && all2 p as bs
  | _, _ => false
/-- a target: st tells which names may be stored -/
def mT (M : ME) (st : PySem.Str → Bool) : Nat → Tg → Expr → Bool
  | 0, _, _ => false
  | _ + 1, .nm i, x => match asName x with
    | some y => decide (M.N[i]? = some y) && st y
    | none => false
  | n + 1, .tup ts, x => match asTup x with
    | some xs => xs.all noStar && all2 (mT M st n) ts xs
    | none => false
/-- names that a comprehension's block may store -/
def blkSt (sc scope : Scope) (x : PySem.Str) : Bool := decide ((relS scope sc).names.lookup x = some .local) || (decide (scope.names.lookup x = some .cell) && decide ((relS scope sc).names.lookup x = some .cell))
def ownT (M : ME) (ns : List Nat) : List (PySem.Str × Nat) := ns.map fun i => ((M.N[i]?).getD (tx []), i)
theorem ownT_snd (M : ME) (ns : List Nat) : (ownT M ns).map (·.2) = ns := by
  simp [ownT, Function.comp_def]
def isTupT : Expr → Bool
  | .Tuple .. => true
  | _ => false
def isVarE : Ex → Bool
  | .var _ => true
  | _ => false
def isIfE : Ex → Bool
  | .ife .. => true
  | _ => false
def mC (p : Ex → Expr → Bool) : List Ex → List Expr → Bool
  | [], [] => true
  | [a], [x] => p a x && !isIfE a
  | _, _ => false
/-- a slice's part -/
def mP (p : Ex → Expr → Bool) (a : Ex) : Option Expr → Bool
  | none => isNonE a
  | some x => !isNonE a && p a x
/-- what is walked -/
def mW (p : Ex → Expr → Bool) (sc : Scope) (tg : Expr) (s : Sc) (x : Expr) : Bool := noSet x && match s with
  | .ex e => p e x
  | .range1 e => match asCall x with
    | some (y, [x1]) => decide (y = "range") && glB sc y && noStar x1 && p e x1
    | _ => false
  | .range2 e e2 => match asCall x with
    | some (y, [x1, x2]) => decide (y = "range") && glB sc y && noStar x1 && noStar x2 && p e x1 && p e2 x2
    | _ => false
  | .enum e => match asCall x with
    | some (y, [x1]) => decide (y = "enumerate") && glB sc y && noStar x1 && p e x1 && isTupT tg
    | _ => false
  | _ => false
/-- a text's part -/
def mF (p : Ex → Expr → Bool) (a : Ex) (x : Expr) : Bool := match a, asCon x with
  | .str s, some (.str t) => decide (t = tx s)
  | _, _ => match asFmt x with
    | some y => p a y
    | none => false
theorem mF_or {p : Ex → Expr → Bool} {a : Ex} {x : Expr} (h : mF p a x = true) : (∃ s kk pos, a = .str s ∧ x = .Constant (.str (tx s)) kk pos) ∨ ∃ y pos, x = .FormattedValue y (-1) none pos ∧ p a y = true := by
  unfold mF at h
  split at h
  · rename_i s t e1
    obtain ⟨kk, pos, rfl⟩ := asCon_eq e1
    have := of_decide_eq_true h
    subst this
    exact .inl ⟨s, kk, pos, rfl, rfl⟩
  · split at h
    · rename_i y e1
      obtain ⟨pos, rfl⟩ := asFmt_eq e1
      exact .inr ⟨y, pos, rfl, h⟩
    · cases h
def noArgs (ar : Arguments) : Bool := match ar with
  | ⟨[], [], none, [], [], none, []⟩ => true
  | _ => false
def gnOk : Gn → Bool
  | .min | .max => false
  | _ => true
/-- a generator expression's own scope -/
def genSc (sc : Scope) : Bool := (sc.names.all fun y => !decide (y.2 = .cell)) && !sc.isCoroutine && decide (sc.names.lookup (".0" : PySem.Str) = some NameKind.local)
def genSt (sc : Scope) (x : PySem.Str) : Bool := decide (sc.names.lookup x = some .local)
def noLstE : Expr → Bool
  | .List .. => false
  | _ => true
theorem gfold_no {e : Expr} (h : noSet e = true) (h2 : noLstE e = true) (env : Env) (x : Value) : genFold e env x = pure x := by
  cases e <;> first | rfl | (cases h2; done) | (cases h; done)
/-- does the own expression bear the given one? tl: what may stand here -/
def mE (M : ME) : Nat → Scope → Wh → Ex → Expr → Bool
  | 0, _, _, _, _ => false
  | n + 1, sc, tl, a, x => match a with
    | .non => match asCon x with
      | some .none => true
      | _ => false
    | .bl b => match asCon x with
      | some (.bool c) => decide (c = b)
      | _ => false
    | .int i => match asCon x with
      | some (.int j) => decide (j = i)
      | _ => false
    | .str s => match asCon x with
      | some (.str t) => decide (t = tx s)
      | _ => false
    | .var i => match asName x with
      | some y => varB M sc i y
      | none => false
    | .tup es => match asTup x with
      | some xs => xs.all noStar && all2 (mE M n sc tl) es xs && decide (es.length ≤ 1000)
      | none => false
    | .lst es => match asLst x with
      | some xs => xs.all noStar && all2 (mE M n sc tl) es xs && decide (es.length ≤ 1000)
      | none => false
    | .bin o a b => match asBin x with
      | some (y, p, z) => decide (p = opB o) && mE M n sc tl a y && mE M n sc tl b z
      | none => false
    | .neg a => match asNeg x with
      | some y => mE M n sc tl a y
      | none => false
    | .not a => match asNot x with
      | some y => mE M n sc tl a y && !isIfE a
      | none => false
    | .cmp o a b => match asCmp x with
      | some (y, p, z) => decide (p = opC o) && !behindInMarks (opC o) z && mE M n sc tl a y && mE M n sc tl b z
      | none => false
    | .cmp2 o o' a b c => match asCmp2 x with
      | some (y, p, z, p', w) => decide (p = opC o) && decide (p' = opC o') && !lastMarks [opC o, opC o'] [z, w] && mE M n sc tl a y && mE M n sc tl b z && mE M n sc tl c w
      | none => false
    | .and es => match asAnd x with
      | some xs => all2 (fun a x => mE M n sc tl a x && !isIfE a) es xs && !xs.isEmpty
      | none => false
    | .or es => match asOr x with
      | some xs => all2 (fun a x => mE M n sc tl a x && !isIfE a) es xs && !xs.isEmpty
      | none => false
    | .ife c a b => match asIfe x with
      | some (w, y, z) => mE M n sc tl c w && !isIfE c && mE M n sc tl a y && mE M n sc tl b z
      | none => false
    | .idx a i => match asIdx x with
      | some (y, z) => mE M n sc tl a y && mE M n sc tl i z
      | none => false
    | .slc a lo hi => match asSlc x with
      | some (y, l, h) => mE M n sc tl a y && mP (mE M n sc tl) lo l && mP (mE M n sc tl) hi h
      | none => false
    | .rev a => match asRev x with
      | some y => mE M n sc tl a y
      | none => false
    | .call j es => match asCall x, M.fs j with
      | some (y, xs), some (f, np) => decide (y = f) && glB sc y && okN y && xs.all noStar && all2 (mE M n sc tl) es xs && decide (es.length = np)
      | _, _ => false
    | .bi b es => match asCall x with
      | some (y, xs) => biOk b && decide (y = biN b) && glB sc y && xs.all noStar && all2 (mE M n sc tl) es xs && !xs.isEmpty
      | none => false
    | .lc e t s c => match asLc x with
      | some (y, tg, it, ifs, scope) => mW (mE M n sc tl) sc tg s it && blkC M.N sc scope (ownT M (namesT t)) && mT M (blkSt sc scope) n t tg && mC (mE M n (relS scope sc) tl.blk) c ifs && mE M n (relS scope sc) tl.blk e y
      | none => false
    | .lc1 e i s => match asLc x with
      | some (y, tg, it, [], scope) => mW (mE M n sc tl) sc tg s it && blkC M.N sc scope (ownT M [i]) && mT M (blkSt sc scope) n (.nm i) tg && mE M n (relS scope sc) tl.blk e y
      | _ => false
    | .fst es => match asFst x with
      | some xs => all2 (mF (mE M n sc tl)) es xs && !xs.isEmpty
      | none => false
    | .told e cs z => match asCall x with
      | some (y, [l]) => match asLam l with
        | some (ar, bd, lsc, pl) => tl.tl && decide (y = M.told) && glB sc y && decide (cs = M.cs) && decide (z = M.z) && noArgs ar && lamSB sc lsc && mE M n lsc .no e bd && !inG tl.G pl
        | none => false
      | _ => false
    | .gn g e t s c => match asCall x with
      | some (y, [gx]) => match asGen gx with
        | some (elt, tg, it, ifs, scope, gp) => tl.ge && gnOk g && decide (y = gnN g) && glB sc y && inG tl.G gp && mW (mE M n sc tl) sc tg s it && noLstE it && blkC M.N sc scope (ownT M (namesT t)) && genSc scope && mT M (genSt scope) n t tg && mC (mE M n scope .no) c ifs && mE M n scope .no e elt
        | none => false
      | _ => false
    | .refused x1 k f m cs z => match asRef x with
      | some q => tl.rf && decide (m = M.ol.length) && decide (cs = M.cs) && decide (z = M.z) && decide (q.z = tx z) && decide (q.yk1 = q.yk) && decide (q.yf2 = q.yf) && decide (q.told = M.told) && decide (q.en = "enumerate") && decide (M.N[k]? = some q.yk) && decide (M.N[f]? = some q.yf) && varB M sc x1 q.yx && glB sc q.en &&
        blkC M.N sc q.scope [(q.yk, k), (q.yf, f)] && blkSt sc q.scope q.yk && blkSt sc q.scope q.yf && okN q.yk && okN q.yf && decide ((relS q.scope sc).names.lookup q.told = some .globalImplicit) && decide (k ≠ f) && decide (m ≤ 1000) && shal 8 (.str z)
      | none => false
    | _ => false
/-- the j-th lambda is as it should be -/
def lamOkM (M : ME) (sc : Scope) : LamOk := fun j pr bd lsc => noArgs pr = true ∧ lamSB sc lsc = true ∧ ∃ e, M.ol[j]? = some e ∧ mE M 60 lsc .no e bd = true
def lamB (M : ME) (sc : Scope) (e : Ex) (x : Expr) : Bool := match asLam x with
  | some (ar, bd, lsc, p) => noArgs ar && lamSB sc lsc && !inG M.tl.G p && mE M 60 lsc .no e bd
  | none => false
end VS
end

section
set_option autoImplicit false
set_option linter.all false
/-! VM3: what the checker of expressions is good for. -/
namespace VS
open PySem PySem.Spec PyProof.Rows L2 LamX

def blts : List PySem.Str := ["len", "sum", "min", "max", "sorted", "list", "tuple", "abs", "int", "str", "range", "enumerate", "any", "all"]
/-- told's def, called from X -/
def ToldAt (M : ME) (C : RC) (X : Cx) (G : List (Nat × Nat)) : Prop := ∃ (a : PySem.Str) (g cd tb CS : Addr) (pg : Arguments) (bg : List Stmt) (sg : Scope) (dV kV doc pm cdv ct oc : Value) (an od : Option Addr) (osl : Array (Option Value)) (Ng : List PySem.Str),
  X.mg M.told = some (.ref g) ∧ PySem.W.keepIn X.K (.ref g) = true ∧ X.K.lookup g = some ⟨oc, od, .func (PySem.W.fnOf M.told M.told pg bg sg dV kV doc pm an cdv ct), osl⟩ ∧
  PySem.W.codeIn X.K cdv M.told = true ∧ L2.Binds X.K (PySem.W.fnOf M.told M.told pg bg sg dV kV doc pm an cdv ct) [a] [] ∧ FnScope Ng [a] sg ∧ Ng[0]? = some a ∧ Vis sg a ∧ GivesTo X Ng M.told sg g cdv bg a (X.env.qual ++ "<lambda>") (TTold X.K CS (tx M.z)) ∧
  TabB X.base X.mg cd tb ∧ X.env.code = .ref cd ∧ (tb, X.env.qual ++ "<lambda>", G) ∈ C.T ∧ (∀ p ∈ C.T, p.1 = tb → p.2 = (X.env.qual ++ "<lambda>", G)) ∧ okN M.told = true ∧ okN a = true ∧ ∀ c ∈ M.cs, PySem.W.exmOne X.K (C.cv c) (.ref CS) = some true
/-- the table of the def's code objects -/
def GTab (C : RC) (X : Cx) (G : List (Nat × Nat)) : Prop := ∃ (cd tb : Addr) (nm : PySem.Str), TabB X.base X.mg cd tb ∧ X.env.code = .ref cd ∧ (tb, nm, G) ∈ C.T ∧ ∀ p ∈ C.T, p.1 = tb → p.2 = (nm, G)
/-- the list of lambdas is known, told may be asked of them -/
def RfAt (M : ME) (F : Fns) (k : Nat) (C : RC) (sc : Scope) (X : Cx) (G : List (Nat × Nat)) : Prop := ∃ (cd tb : Addr) (nm : PySem.Str) (CS : Addr) (a : PySem.Str) (g : Addr) (pg : Arguments) (bg : List Stmt) (sg : Scope) (dV kV doc pm cdv ct oc : Value) (an od : Option Addr) (osl : Array (Option Value)) (Ng : List PySem.Str),
  LSite X C.T cd tb nm G ∧ C = CL X.K C.cv C.T nm X.env.cells (lamOkM M sc) ∧ ToldD X M.told nm CS M.z a g pg bg sg dV kV doc pm cdv ct oc an od osl Ng ∧ (∀ c ∈ M.cs, PySem.W.exmOne X.K (C.cv c) (.ref CS) = some true) ∧
  ∀ (i : Nat) (pr : Arguments) (bd : Expr) (lsc : Scope), lamOkM M sc i pr bd lsc → ∀ (A : Around) (outer : List Env) (s : Shared) (H : Hp) (E : XK) (f c' : Addr), Room k (A.deeper (lamEnv X lsc s.heap.objs.size f c')) → SE C (lamCx X A outer s H E lsc f c') bd (F.lam i)
/-- a place where own expressions may stand -/
structure Site (M : ME) (F : Fns) (k : Nat) (C : RC) (sc : Scope) (tl : Wh) (X : Cx) : Prop where
  hN : X.N = M.N
  nd : M.N.Nodup
  hs : X.env.scope = sc
  hk : C.K = X.K
  calm : X.calm = true
  rm : Room k X.A
  mg : ∀ y ∈ blts, X.mg y = none
  fs : ∀ (j : Nat) (y : PySem.Str) (np : Nat), M.fs j = some (y, np) → ∃ (f : Addr) (fd : FuncData) (pn : List PySem.Str), FnOk X.prog X.w X.K X.mg X.base (L2.CX X.prog X.w) k f fd pn (spC C.plain (F.call j) np) ∧ X.mg y = some (.ref f) ∧ PySem.W.keepIn X.K (.ref f) = true ∧ Binds X.K fd pn []
  td : tl.tl = true → Room (k + 2) X.A ∧ ToldAt M C X tl.G
  ge : tl.ge = true → Room (k + 1) X.A ∧ GTab C X tl.G
  rf : tl.rf = true → Room (k + 2) X.A ∧ RfAt M F k C sc X tl.G

section
variable {M : ME} {F : Fns} {k : Nat} {C : RC} {sc scope : Scope} {tl : Wh} {X : Cx}
theorem Site.blk (S : Site M F k C sc tl X) (s : Shared) (H : Hp) (E : Addr) (cl : List (PySem.Str × Addr)) (fp : List Addr) : Site M F k C (relS scope sc) tl.blk (Blk X scope s H E cl fp) :=
  ⟨S.hN, S.nd, by rw [← S.hs]; rfl, S.hk, S.calm, S.rm, S.mg, S.fs, S.td, S.ge, fun h => (by cases h)⟩
theorem Site.lam (S : Site M F k C sc tl X) {A : Around} {outer : List Env} {s : Shared} {H : Hp} {E : XK} {lsc : Scope} {f c' : Addr} (r : Room k (A.deeper (lamEnv X lsc s.heap.objs.size f c'))) : Site M F k C lsc .no (lamCx X A outer s H E lsc f c') :=
  ⟨S.hN, S.nd, rfl, S.hk, rfl, r, S.mg, S.fs, fun h => (by cases h), fun h => (by cases h), fun h => (by cases h)⟩
theorem Site.gen (S : Site M F k C sc tl X) {A : Around} {s4 : Shared} {H : Hp} {code : Value} {fp : List Addr} {pn : List (Addr × Obj)} (r : Room k (A.deeper (gEnv X scope s4 code))) : Site M F k C scope .no (genCx X A s4 H (gEnv X scope s4 code) fp pn) :=
  ⟨S.hN, S.nd, rfl, S.hk, rfl, r, S.mg, S.fs, fun h => (by cases h), fun h => (by cases h), fun h => (by cases h)⟩
theorem Site.un (S : Site M F k C sc tl X) : X.A.units + 65 < cLine := by have := S.rm.un; omega
theorem okN_ok {x : PySem.Str} (h : okN x = true) : (x == ("__debug__" : PySem.Str)) = false ∧ (x == ("__classdict__" : PySem.Str)) = false ∧ x ≠ "__name__" := by
  simpa [okN, and_assoc] using h
theorem Site.gl (S : Site M F k C sc tl X) {y : PySem.Str} (h : glB sc y = true) : Gl X y := by
  unfold L2.Gl Env.kindOf
  rw [S.hs]
  simpa [glB] using h
theorem Site.pv (S : Site M F k C sc tl X) {i : Nat} {y : PySem.Str} {p : Pos} (h : varB M sc i y = true) : PE X (.Name y p) (tVar i) := by
  simp only [varB, Bool.and_eq_true, decide_eq_true_eq] at h
  obtain ⟨⟨h1, h2⟩, h3⟩ := h
  obtain ⟨a, b, _⟩ := okN_ok h3
  exact pe_var (by rw [S.hN]; exact h1) (by rw [S.hs]; exact visB_ok h2) a b
theorem opd_of {a : Ex} (h : isVarE a = false) (m : Rho → R (Ow × D)) : opd a m = fun r => (m r).bind fun v r' => .ok (.tmp v.2) r' := by
  cases a <;> first | rfl | simp [isVarE] at h
theorem argE_of {a : Ex} (h : isVarE a = false) (m : Rho → R (Ow × D)) : argE a m = fun r => (m r).bind fun v r' => .ok (.tmp v.1 v.2) r' := by
  cases a <;> first | rfl | simp [isVarE] at h
theorem mE_var {n : Nat} {i : Nat} {x : Expr} (h : mE M n sc tl (.var i) x = true) : ∃ y p, x = .Name y p ∧ varB M sc i y = true := by
  cases n with
  | zero => cases h
  | succ n =>
    simp only [mE] at h
    cases e : asName x with
    | none => rw [e] at h; cases h
    | some y =>
      rw [e] at h
      obtain ⟨p, rfl⟩ := asName_eq e
      exact ⟨y, p, rfl, h⟩
/-- operands -/
theorem so_mE (S : Site M F k C sc tl X) {n : Nat} {a : Ex} {x : Expr} (h : mE M n sc tl a x = true) (e : SE C X x (evE F a)) : SO C X x (opd a (evE F a)) := by
  by_cases v : isVarE a = true
  · cases a <;> simp [isVarE] at v
    obtain ⟨y, p, rfl, hv⟩ := mE_var h
    exact so_var (S.pv hv)
  · rw [opd_of (by simpa using v)]
    exact so_of e
theorem sa_mE (S : Site M F k C sc tl X) {n : Nat} {a : Ex} {x : Expr} (h : mE M n sc tl a x = true) (e : SE C X x (evE F a)) : SA C X x (argE a (evE F a)) := by
  by_cases v : isVarE a = true
  · cases a <;> simp [isVarE] at v
    obtain ⟨y, p, rfl, hv⟩ := mE_var h
    exact sa_var (S.pv hv)
  · rw [argE_of (by simpa using v)]
    exact sa_of e
/-- what is shown of expressions that pass with n -/
def Okn (M : ME) (F : Fns) (k : Nat) (C : RC) (n : Nat) : Prop := ∀ (sc : Scope) (tl : Wh) (X : Cx) (a : Ex) (x : Expr), Site M F k C sc tl X → mE M n sc tl a x = true → SE C X x (evE F a) ∧ (isIfE a = false → SB C X x (tst a (evE F a)))
variable {n : Nat}
theorem all2_nil {α β : Type} {p : α → β → Bool} {bs : List β} (h : all2 p [] bs = true) : bs = [] := by cases bs <;> first | rfl | cases h
theorem all2_cons {α β : Type} {p : α → β → Bool} {a : α} {as : List α} {bs : List β} (h : all2 p (a :: as) bs = true) : ∃ b bs', bs = b :: bs' ∧ p a b = true ∧ all2 p as bs' = true := by
  cases bs with
  | nil => cases h
  | cons b bs => simp only [all2, Bool.and_eq_true] at h; exact ⟨b, bs, rfl, h.1, h.2⟩
theorem sl_mE (S : Site M F k C sc tl X) (ih : Okn M F k C n) : ∀ (es : List Ex) (xs : List Expr), all2 (mE M n sc tl) es xs = true → xs.all noStar = true → SL C X xs (evL F es)
  | [], xs, h, _ => by
    rw [all2_nil h, show evL F [] = fun r => .ok [] r from by funext r; simp only [evL]]
    exact sl_nil
  | e :: es, xs, h, s => by
    obtain ⟨x, xs, rfl, h1, h2⟩ := all2_cons h
    have s2 := all_eq s
    rw [show evL F (e :: es) = fun r => (evE F e r).bind fun v r1 => (evL F es r1).bind fun ds r2 => .ok (v.2 :: ds) r2 from by funext r; simp only [evL]]
    exact sl_cons (star_cons s2.1 _ _) (ih _ _ _ _ _ S h1).1 (sl_mE S ih es xs h2 s2.2)
theorem st_mE (S : Site M F k C sc tl X) (ih : Okn M F k C n) : ∀ (es : List Ex) (xs : List Expr), all2 (mE M n sc tl) es xs = true → xs.all noStar = true → ST C X xs (evT F es)
  | [], xs, h, _ => by
    rw [all2_nil h, show evT F [] = fun r => .ok [] r from by funext r; simp only [evT]]
    exact st_nil
  | e :: es, xs, h, s => by
    obtain ⟨x, xs, rfl, h1, h2⟩ := all2_cons h
    have s2 := all_eq s
    rw [show evT F (e :: es) = fun r => (opd e (evE F e) r).bind fun v r1 => (evT F es r1).bind fun ds r2 => .ok (v :: ds) r2 from by funext r; simp only [evT]]
    exact st_cons (star_cons s2.1 _ _) (so_mE S h1 (ih _ _ _ _ _ S h1).1) (st_mE S ih es xs h2 s2.2)
theorem sg_mE (S : Site M F k C sc tl X) (ih : Okn M F k C n) : ∀ (es : List Ex) (xs : List Expr), all2 (mE M n sc tl) es xs = true → xs.all noStar = true → SG C X xs (evG F es)
  | [], xs, h, _ => by
    rw [all2_nil h, show evG F [] = fun r => .ok [] r from by funext r; simp only [evG]]
    exact sg_nil
  | e :: es, xs, h, s => by
    obtain ⟨x, xs, rfl, h1, h2⟩ := all2_cons h
    have s2 := all_eq s
    rw [show evG F (e :: es) = fun r => (argE e (evE F e) r).bind fun v r1 => (evG F es r1).bind fun ds r2 => .ok (v :: ds) r2 from by funext r; simp only [evG]]
    exact sg_cons (star_cons s2.1 _ _) (sa_mE S h1 (ih _ _ _ _ _ S h1).1) (sg_mE S ih es xs h2 s2.2)
theorem bind_ok {α β : Type} {m : R α} {f : α → Rho → R β} {r : Rho} {b : β} (h : m.bind f = .ok b r) : ∃ a r1, m = .ok a r1 ∧ f a r1 = .ok b r := by
  cases m with
  | ok a r1 => exact ⟨a, r1, rfl, h⟩
  | ex c r1 => cases h
  | no => cases h
theorem evL_len : ∀ {es : List Ex} {r r' : Rho} {ds : List D}, evL F es r = .ok ds r' → ds.length = es.length
  | [], r, r', ds, h => by simp only [evL] at h; cases h; rfl
  | e :: es, r, r', ds, h => by
    simp only [evL] at h
    obtain ⟨v, r1, _, h⟩ := bind_ok h
    obtain ⟨ds', r2, h1, h⟩ := bind_ok h
    cases h
    simp [evL_len h1]
theorem evG_len : ∀ {es : List Ex} {r r' : Rho} {ds : List Arg}, evG F es r = .ok ds r' → ds.length = es.length
  | [], r, r', ds, h => by simp only [evG] at h; cases h; rfl
  | e :: es, r, r', ds, h => by
    simp only [evG] at h
    obtain ⟨v, r1, _, h⟩ := bind_ok h
    obtain ⟨ds', r2, h1, h⟩ := bind_ok h
    cases h
    simp [evG_len h1]
/-- targets -/
theorem pg_mT (hN : X.N = M.N) (nd : M.N.Nodup) (hk : C.K = X.K) (hc : X.calm = true) {st : PySem.Str → Bool} (hst : ∀ y, st y = true → L2.Loc X.env.scope y ∧ (X.fn y = true ∨ X.env.scope.names.lookup y = some .local)) : ∀ (n : Nat) (t : Tg) (x : Expr), mT M st n t x = true → PG X x (gT C (namesT t) (bindT t)) := by
  intro n
  induction n with
  | zero => intro t x h; cases t <;> cases h
  | succ n ih =>
    intro t x h
    cases t with
    | nm i =>
      simp only [mT] at h
      cases e : asName x with
      | none => rw [e] at h; cases h
      | some y =>
        rw [e] at h
        obtain ⟨p, rfl⟩ := asName_eq e
        simp only [Bool.and_eq_true, decide_eq_true_eq] at h
        obtain ⟨a, b⟩ := hst y h.2
        exact pg_nm (hN ▸ nd) (by rw [hN]; exact h.1) a b
    | tup ts =>
      simp only [mT] at h
      cases e : asTup x with
      | none => rw [e] at h; cases h
      | some xs =>
        rw [e] at h
        obtain ⟨kk, p, rfl⟩ := asTup_eq e
        simp only [Bool.and_eq_true] at h
        obtain ⟨h1, h2⟩ := h
        have go : ∀ (ts : List Tg) (xs : List Expr), xs.all noStar = true → all2 (mT M st n) ts xs = true → PGs X xs (gTs C (namesTs ts) (bindTs ts)) ∧ xs.length = ts.length := by
          intro ts
          induction ts with
          | nil => intro xs _ h; rw [all2_nil h]; exact ⟨pgs_n, rfl⟩
          | cons t ts ih2 =>
            intro xs s h
            obtain ⟨x, xs, rfl, q1, q2⟩ := all2_cons h
            have s2 := all_eq s
            obtain ⟨g, l⟩ := ih2 xs s2.2 q2
            exact ⟨pgs_c s2.1 (ih t x q1) g, by simp [l]⟩
        obtain ⟨g, l⟩ := go ts xs h1 h2
        exact pg_tp hk hc h1 l g
end
end VS
end

section
set_option autoImplicit false
set_option linter.all false
/-! VM4: what the checker of expressions is good for: the parts. -/
namespace VS
open PySem PySem.Spec PyProof.Rows L2 LamX

section
variable {M : ME} {F : Fns} {k : Nat} {C : RC} {sc scope : Scope} {tl : Wh} {X : Cx} {n : Nat}
theorem sb_def {a : Ex} {x : Expr} (S : Site M F k C sc tl X) (so : SO C X x (opd a (evE F a))) (he : ∀ whole, isTrue x X.env whole = (do let v ← whole; standAt x.pos; holding [v] (truthy v))) : SB C X x (tst a (evE F a)) := by
  rw [tst_opd]
  exact sb_truth S.hk he so
theorem partE_of {a : Ex} (h : isNonE a = false) (m : Rho → R (Ow × D)) : partE a m = fun r => (opd a m r).bind fun o r1 => match res r1 o with
    | some (.int i) => .ok (some i) r1
    | _ => .no := by
  funext r
  unfold partE trans
  rw [h, if_neg (by simp), R.bind_assoc]
  congr 1
  funext o r1
  cases e : res r1 o with
  | none => rfl
  | some d => cases d <;> rfl
theorem sp_mP (S : Site M F k C sc tl X) (ih : Okn M F k C n) {a : Ex} {x : Option Expr} (h : mP (mE M n sc tl) a x = true) : SP C X x (partE a (evE F a)) := by
  cases x with
  | none =>
    have h' : isNonE a = true := h
    rw [show partE a (evE F a) = fun r => .ok none r from by funext r; unfold partE; rw [h', if_pos rfl]]
    exact sp_none
  | some x =>
    simp only [mP, Bool.and_eq_true, Bool.not_eq_true'] at h
    rw [partE_of h.1]
    exact sp_some (so_mE S h.2 (ih _ _ _ _ _ S h.2).1)
theorem glX (S : Site M F k C sc tl X) {y z : PySem.Str} (h : decide (y = z) = true) (g : glB sc y = true) : Gl X z := by
  have := of_decide_eq_true h
  subst this
  exact S.gl g
theorem si_mW (S : Site M F k C sc tl X) (ih : Okn M F k C n) {tg : Expr} {s : Sc} {x : Expr} (h : mW (mE M n sc tl) sc tg s x = true) : SI C X tg x (evSc F s) ∧ ∀ v, foldedSetIterable x X.env v = pure v := by
  simp only [mW, Bool.and_eq_true] at h
  obtain ⟨h0, h⟩ := h
  refine ⟨?_, fold_no h0 _⟩
  cases s with
  | ex e =>
    rw [show evSc F (.ex e) = fun r => (opd e (evE F e) r).bind fun x r1 => op1 x (fun d => (seqD d).map fun ds => (ds, ownO x r1)) r1 from by funext r; simp only [evSc]]
    exact si_ex S.hk (so_mE S h (ih _ _ _ _ _ S h).1)
  | range1 e =>
    rw [show evSc F (.range1 e) = fun r => (opd e (evE F e) r).bind fun x r1 => op1 x rng1 r1 from by funext r; simp only [evSc]]
    dsimp only at h
    split at h
    · rename_i y x1 e1
      obtain ⟨p1, p, rfl⟩ := asCall_eq e1
      simp only [Bool.and_eq_true, decide_eq_true_eq] at h
      obtain ⟨⟨⟨rfl, h2⟩, h3⟩, h4⟩ := h
      exact si_range1 (S.gl h2) (S.mg _ (by decide)) h3 (so_mE S h4 (ih _ _ _ _ _ S h4).1)
    · cases h
  | range2 e e2 =>
    rw [show evSc F (.range2 e e2) = fun r => (opd e (evE F e) r).bind fun x r1 => (opd e2 (evE F e2) r1).bind fun y r2 => op2 x y rng2 r2 from by funext r; simp only [evSc]]
    dsimp only at h
    split at h
    · rename_i y x1 x2 e1
      obtain ⟨p1, p, rfl⟩ := asCall_eq e1
      simp only [Bool.and_eq_true, decide_eq_true_eq] at h
      obtain ⟨⟨⟨⟨⟨rfl, h2⟩, h3⟩, h4⟩, h5⟩, h6⟩ := h
      exact si_range2 (S.gl h2) (S.mg _ (by decide)) h3 h4 (so_mE S h5 (ih _ _ _ _ _ S h5).1) (so_mE S h6 (ih _ _ _ _ _ S h6).1)
    · cases h
  | enum e =>
    rw [show evSc F (.enum e) = fun r => (opd e (evE F e) r).bind fun x r1 => op1 x (fun d => (seqD d).map fun ds => (enumD 0 ds, ownO x r1)) r1 from by funext r; simp only [evSc]]
    dsimp only at h
    split at h
    · rename_i y x1 e1
      obtain ⟨p1, p, rfl⟩ := asCall_eq e1
      simp only [Bool.and_eq_true, decide_eq_true_eq] at h
      obtain ⟨⟨⟨⟨rfl, h2⟩, h3⟩, h4⟩, h5⟩ := h
      cases tg <;> simp [isTupT] at h5
      exact si_enum S.hk (S.gl h2) (S.mg _ (by decide)) h3 (so_mE S h4 (ih _ _ _ _ _ S h4).1)
    · cases h
  | range3 a b c => cases h
  | zip a b => cases h
  | items e => cases h
  | values e => cases h
theorem sbs_mC (S : Site M F k C sc tl X) (ih : Okn M F k C n) {c : List Ex} {xs : List Expr} (h : mC (mE M n sc tl) c xs = true) : SBs C X xs (evC F c) := by
  unfold mC at h
  split at h
  · rw [show evC F [] = fun r => .ok true r from by funext r; simp only [evC]]
    exact sbs_nil
  · rename_i a x
    simp only [Bool.and_eq_true, Bool.not_eq_true'] at h
    rw [show evC F [a] = tst a (evE F a) from by funext r; simp only [evC]]
    exact sbs_one ((ih _ _ _ _ _ S h.1).2 h.2)
  · cases h
theorem blkSt_ok {y : PySem.Str} (h : blkSt sc scope y = true) {s : Shared} {H : Hp} {E : Addr} {cl : List (PySem.Str × Addr)} {fp : List Addr} (hs : X.env.scope = sc) :
    L2.Loc (Blk X scope s H E cl fp).env.scope y ∧ ((Blk X scope s H E cl fp).fn y = true ∨ (Blk X scope s H E cl fp).env.scope.names.lookup y = some .local) := by
  have e : (Blk X scope s H E cl fp).env.scope = relS scope sc := by rw [← hs]; rfl
  rw [e]
  simp only [blkSt, Bool.or_eq_true, Bool.and_eq_true, decide_eq_true_eq] at h
  rcases h with h | ⟨h1, h2⟩
  · exact ⟨.inl h, .inr h⟩
  · refine ⟨.inr h2, .inl ?_⟩
    show (scope.names.lookup y == some .cell) = true
    rw [h1]; rfl
/-- tests of a list, as evA and evO do them -/
theorem pair_sb (S : Site M F k C sc tl X) (ih : Okn M F k C n) : ∀ (es : List Ex) (xs : List Expr), all2 (fun a x => mE M n sc tl a x && !isIfE a) es xs = true → Paired (fun e m => SB C X e m) xs (es.map fun a => tst a (evE F a)) ∧ Paired (fun e m => SO C X e m) xs (es.map fun a => opd a (evE F a))
  | [], xs, h => by rw [all2_nil h]; exact ⟨.nil, .nil⟩
  | e :: es, xs, h => by
    obtain ⟨x, xs, rfl, h1, h2⟩ := all2_cons h
    simp only [Bool.and_eq_true, Bool.not_eq_true'] at h1
    obtain ⟨p, q⟩ := pair_sb S ih es xs h2
    have i := ih _ _ _ _ _ S h1.1
    exact ⟨.cons (i.2 h1.2) p, .cons (so_mE S h1.1 i.1) q⟩
theorem evA_v : ∀ (es : List Ex) (r : Rho), evA F es r = vAnd (es.map fun a => opd a (evE F a)) r
  | [], r => by simp only [evA]; rfl
  | e :: es, r => by
    simp only [evA, List.map_cons, vAnd, trans]
    rw [R.bind_assoc]
    congr 1
    funext o r1
    cases res r1 o with
    | none => rfl
    | some d => cases d <;> first | rfl | (rename_i b; cases b <;> first | rfl | exact evA_v es r1)
theorem evO_v : ∀ (es : List Ex) (r : Rho), evO F es r = vOr (es.map fun a => opd a (evE F a)) r
  | [], r => by simp only [evO]; rfl
  | e :: es, r => by
    simp only [evO, List.map_cons, vOr, trans]
    rw [R.bind_assoc]
    congr 1
    funext o r1
    cases res r1 o with
    | none => rfl
    | some d => cases d <;> first | rfl | (rename_i b; cases b <;> first | rfl | exact evO_v es r1)
theorem evA_b : ∀ (es : List Ex) (r : Rho), evA F es r = .no ∨ evA F es r = bAnd (es.map fun a => tst a (evE F a)) r
  | [], r => .inr (by simp only [evA]; rfl)
  | e :: es, r => by
    simp only [evA, List.map_cons, bAnd, tst]
    cases h : trans e (evE F e) r with
    | no => exact .inl rfl
    | ex c r1 => exact .inr rfl
    | ok d r1 =>
      cases d <;> first | exact .inl rfl | skip
      rename_i b
      cases b
      · exact .inr rfl
      · exact evA_b es r1
theorem evO_b : ∀ (es : List Ex) (r : Rho), evO F es r = .no ∨ evO F es r = bOr (es.map fun a => tst a (evE F a)) r
  | [], r => .inr (by simp only [evO]; rfl)
  | e :: es, r => by
    simp only [evO, List.map_cons, bOr, tst]
    cases h : trans e (evE F e) r with
    | no => exact .inl rfl
    | ex c r1 => exact .inr rfl
    | ok d r1 =>
      cases d <;> first | exact .inl rfl | skip
      rename_i b
      cases b
      · exact evO_b es r1
      · exact .inr rfl
end
end VS
end

section
set_option autoImplicit false
set_option linter.all false
/-! VM5: an expression that passes the checker does what the evaluator says. -/
namespace VS
open PySem PySem.Spec PyProof.Rows L2 LamX

section
variable {M : ME} {F : Fns} {k : Nat} {C : RC} {sc scope : Scope} {tl : Wh} {X : Cx} {n : Nat}
/-- both parts, of what is no name and has no test of its own -/
theorem both {a : Ex} {x : Expr} (v : isVarE a = false) (h : SE C X x (evE F a)) (S : Site M F k C sc tl X) (he : ∀ whole, isTrue x X.env whole = (do let v ← whole; standAt x.pos; holding [v] (truthy v))) : SE C X x (evE F a) ∧ (isIfE a = false → SB C X x (tst a (evE F a))) :=
  ⟨h, fun _ => sb_def S (by rw [opd_of v]; exact so_of h) he⟩
theorem se_eq {x : Expr} {ev ev' : Rho → R (Ow × D)} (h : SE C X x ev) (e : ev' = ev) : SE C X x ev' := e ▸ h
/-- constants -/
theorem ok_con {a : Ex} {x : Expr} (S : Site M F k C sc tl X) (h : mE M (n + 1) sc tl a x = true) (q : (∃ b, a = .bl b) ∨ a = .non ∨ (∃ i, a = .int i) ∨ ∃ s, a = .str s) : SE C X x (evE F a) ∧ (isIfE a = false → SB C X x (tst a (evE F a))) := by
  rcases q with ⟨b, rfl⟩ | rfl | ⟨i, rfl⟩ | ⟨s, rfl⟩
  · simp only [mE] at h
    split at h
    · rename_i c e
      obtain ⟨kk, p, rfl⟩ := asCon_eq e
      have := of_decide_eq_true h
      subst this
      exact both rfl (se_eq se_bl (by funext r; simp only [evE])) S fun _ => rfl
    · cases h
  · simp only [mE] at h
    split at h
    · rename_i e
      obtain ⟨kk, p, rfl⟩ := asCon_eq e
      exact both rfl (se_eq se_non (by funext r; simp only [evE])) S fun _ => rfl
    · cases h
  · simp only [mE] at h
    split at h
    · rename_i c e
      obtain ⟨kk, p, rfl⟩ := asCon_eq e
      have := of_decide_eq_true h
      subst this
      exact both rfl (se_eq se_int (by funext r; simp only [evE])) S fun _ => rfl
    · cases h
  · simp only [mE] at h
    split at h
    · rename_i c e
      obtain ⟨kk, p, rfl⟩ := asCon_eq e
      have := of_decide_eq_true h
      subst this
      exact both rfl (se_eq se_str (by funext r; simp only [evE])) S fun _ => rfl
    · cases h
theorem ok_var {i : Nat} {x : Expr} (S : Site M F k C sc tl X) (h : mE M n sc tl (.var i) x = true) : SE C X x (evE F (.var i)) ∧ (isIfE (.var i) = false → SB C X x (tst (.var i) (evE F (.var i)))) := by
  obtain ⟨y, p, rfl, hv⟩ := mE_var h
  exact ⟨se_eq (se_var (S.pv hv)) (by funext r; simp only [evE]), fun _ => sb_def S (so_var (S.pv hv)) fun _ => rfl⟩
theorem ok_seq {es : List Ex} {x : Expr} (S : Site M F k C sc tl X) (ih : Okn M F k C n) (t : Bool) (h : mE M (n + 1) sc tl (if t then .tup es else .lst es) x = true) : SE C X x (evE F (if t then .tup es else .lst es)) ∧ (isIfE (if t then .tup es else .lst es) = false → SB C X x (tst (if t then .tup es else .lst es) (evE F (if t then .tup es else .lst es)))) := by
  have len : es.length ≤ 1000 → ∀ r r' ds, evL F es r = .ok ds r' → ds.length ≤ sizeLine := fun l r r' ds e => by
    rw [evL_len e]
    exact Nat.le_trans l (by decide)
  cases t
  · simp only [Bool.false_eq_true, if_false] at h ⊢
    simp only [mE] at h
    split at h
    · rename_i xs e
      obtain ⟨p, rfl⟩ := asLst_eq e
      simp only [Bool.and_eq_true, decide_eq_true_eq] at h
      exact both rfl (se_eq (se_lst (sl_mE S ih es xs h.1.2 h.1.1) (len h.2)) (by funext r; simp only [evE])) S fun _ => rfl
    · cases h
  · simp only [if_true] at h ⊢
    simp only [mE] at h
    split at h
    · rename_i xs e
      obtain ⟨kk, p, rfl⟩ := asTup_eq e
      simp only [Bool.and_eq_true, decide_eq_true_eq] at h
      exact both rfl (se_eq (se_tup (sl_mE S ih es xs h.1.2 h.1.1) (len h.2)) (by funext r; simp only [evE])) S fun _ => rfl
    · cases h
theorem ok_bin {o : BOp} {a b : Ex} {x : Expr} (S : Site M F k C sc tl X) (ih : Okn M F k C n) (h : mE M (n + 1) sc tl (.bin o a b) x = true) : SE C X x (evE F (.bin o a b)) ∧ (isIfE (.bin o a b) = false → SB C X x (tst (.bin o a b) (evE F (.bin o a b)))) := by
  simp only [mE] at h
  split at h
  · rename_i y p z e
    obtain ⟨pos, rfl⟩ := asBin_eq e
    simp only [Bool.and_eq_true, decide_eq_true_eq] at h
    obtain ⟨⟨rfl, h2⟩, h3⟩ := h
    exact both rfl (se_eq (se_bin (g := binD o) (op_binD o) (by rw [S.hk]; exact rD_op2 _ _) (so_mE S h2 (ih _ _ _ _ _ S h2).1) (so_mE S h3 (ih _ _ _ _ _ S h3).1)) (by funext r; simp only [evE])) S fun _ => rfl
  · cases h
theorem ok_neg {a : Ex} {x : Expr} (S : Site M F k C sc tl X) (ih : Okn M F k C n) (h : mE M (n + 1) sc tl (.neg a) x = true) : SE C X x (evE F (.neg a)) ∧ (isIfE (.neg a) = false → SB C X x (tst (.neg a) (evE F (.neg a)))) := by
  simp only [mE] at h
  split at h
  · rename_i y e
    obtain ⟨pos, rfl⟩ := asNeg_eq e
    exact both rfl (se_eq (se_un (g := negD) un_negD (by rw [S.hk]; exact rD1_op1 _ _) (so_mE S h (ih _ _ _ _ _ S h).1)) (by funext r; simp only [evE])) S fun _ => rfl
  · cases h
theorem ok_not {a : Ex} {x : Expr} (S : Site M F k C sc tl X) (ih : Okn M F k C n) (h : mE M (n + 1) sc tl (.not a) x = true) : SE C X x (evE F (.not a)) ∧ (isIfE (.not a) = false → SB C X x (tst (.not a) (evE F (.not a)))) := by
  simp only [mE] at h
  split at h
  · rename_i y e
    obtain ⟨pos, rfl⟩ := asNot_eq e
    simp only [Bool.and_eq_true, Bool.not_eq_true'] at h
    have i := ih _ _ _ _ _ S h.1
    refine ⟨se_eq (se_not S.hk (so_mE S h.1 i.1)) (by funext r; simp only [evE]), fun _ => ?_⟩
    refine SB.le (sb_not (i.2 h.2)) fun r => .inr ?_
    simp only [tst_opd, evE]
    rw [opd_of rfl]
    simp only [evE, R.bind_assoc]
    congr 1
    funext o r1
    unfold op1
    cases res r1 o with
    | none => rfl
    | some d =>
      simp only [notD]
      cases truO d with
      | none => rfl
      | some b => rfl
  · cases h
theorem ok_cmp {o : COp} {a b : Ex} {x : Expr} (S : Site M F k C sc tl X) (ih : Okn M F k C n) (h : mE M (n + 1) sc tl (.cmp o a b) x = true) : SE C X x (evE F (.cmp o a b)) ∧ (isIfE (.cmp o a b) = false → SB C X x (tst (.cmp o a b) (evE F (.cmp o a b)))) := by
  simp only [mE] at h
  split at h
  · rename_i y p z e
    obtain ⟨pos, rfl⟩ := asCmp_eq e
    simp only [Bool.and_eq_true, decide_eq_true_eq, Bool.not_eq_true'] at h
    obtain ⟨⟨⟨rfl, h1⟩, h2⟩, h3⟩ := h
    have i := so_mE S h2 (ih _ _ _ _ _ S h2).1
    have j := so_mE S h3 (ih _ _ _ _ _ S h3).1
    have oc := op_cmpC (X := X) S.un o
    refine ⟨se_eq (se_cmp (g := cmpV o) oc h1 (by rw [S.hk]; exact rC_op2 o) i j) (by funext r; simp only [evE]), fun _ => ?_⟩
    refine SB.le (sb_cmp oc S.hk h1 i j) fun r => .inr ?_
    simp only [tst_opd]
    rw [opd_of rfl]
    simp only [evE, R.bind_assoc]
    congr 1
    funext o1 r1
    congr 1
    funext o2 r2
    unfold op2
    cases res r2 o1 with
    | none => rfl
    | some d1 =>
      cases res r2 o2 with
      | none => rfl
      | some d2 =>
        simp only [cmpV]
        cases cmpD o d1 d2 <;> rfl
  · cases h
theorem ok_cmp2 {o o' : COp} {a b c : Ex} {x : Expr} (S : Site M F k C sc tl X) (ih : Okn M F k C n) (h : mE M (n + 1) sc tl (.cmp2 o o' a b c) x = true) : SE C X x (evE F (.cmp2 o o' a b c)) ∧ (isIfE (.cmp2 o o' a b c) = false → SB C X x (tst (.cmp2 o o' a b c) (evE F (.cmp2 o o' a b c)))) := by
  simp only [mE] at h
  split at h
  · rename_i y p z p' w e
    obtain ⟨pos, rfl⟩ := asCmp2_eq e
    simp only [Bool.and_eq_true, decide_eq_true_eq, Bool.not_eq_true'] at h
    obtain ⟨⟨⟨⟨⟨rfl, rfl⟩, h1⟩, h2⟩, h3⟩, h4⟩ := h
    have i := so_mE S h2 (ih _ _ _ _ _ S h2).1
    have j := so_mE S h3 (ih _ _ _ _ _ S h3).1
    have l := so_mE S h4 (ih _ _ _ _ _ S h4).1
    have oc := op_cmpC (X := X) S.un o
    have oc' := op_cmpC (X := X) S.un o'
    refine ⟨se_eq (se_cmp2 S.hk oc oc' h1 i j l) (by funext r; simp only [evE, evC2]), fun _ => ?_⟩
    refine SB.le (sb_cmp2 S.hk oc oc' h1 i j l) fun r => .inr ?_
    simp only [tst_opd]
    rw [opd_of rfl]
    simp only [evE, evC2, R.bind_assoc]
    rfl
  · cases h
theorem ok_and {es : List Ex} {x : Expr} (S : Site M F k C sc tl X) (ih : Okn M F k C n) (h : mE M (n + 1) sc tl (.and es) x = true) : SE C X x (evE F (.and es)) ∧ (isIfE (.and es) = false → SB C X x (tst (.and es) (evE F (.and es)))) := by
  simp only [mE] at h
  split at h
  · rename_i xs e
    obtain ⟨pos, rfl⟩ := asAnd_eq e
    simp only [Bool.and_eq_true, Bool.not_eq_true', List.isEmpty_eq_false_iff] at h
    obtain ⟨p, q⟩ := pair_sb S ih es xs h.1
    refine ⟨se_eq (se_andV q h.2) (by funext r; simp only [evE, bV, evA_v]), fun _ => ?_⟩
    refine SB.le (sb_and p h.2) fun r => ?_
    have e : tst (.and es) (evE F (.and es)) r = evA F es r := by
      simp only [tst_opd]
      rw [opd_of rfl]
      simp only [evE, R.bind_assoc]
      cases evA F es r <;> rfl
    rw [e]
    exact evA_b es r
  · cases h
theorem ok_or {es : List Ex} {x : Expr} (S : Site M F k C sc tl X) (ih : Okn M F k C n) (h : mE M (n + 1) sc tl (.or es) x = true) : SE C X x (evE F (.or es)) ∧ (isIfE (.or es) = false → SB C X x (tst (.or es) (evE F (.or es)))) := by
  simp only [mE] at h
  split at h
  · rename_i xs e
    obtain ⟨pos, rfl⟩ := asOr_eq e
    simp only [Bool.and_eq_true, Bool.not_eq_true', List.isEmpty_eq_false_iff] at h
    obtain ⟨p, q⟩ := pair_sb S ih es xs h.1
    refine ⟨se_eq (se_orV q h.2) (by funext r; simp only [evE, bV, evO_v]), fun _ => ?_⟩
    refine SB.le (sb_or p h.2) fun r => ?_
    have e : tst (.or es) (evE F (.or es)) r = evO F es r := by
      simp only [tst_opd]
      rw [opd_of rfl]
      simp only [evE, R.bind_assoc]
      cases evO F es r <;> rfl
    rw [e]
    exact evO_b es r
  · cases h
theorem ok_ife {c a b : Ex} {x : Expr} (S : Site M F k C sc tl X) (ih : Okn M F k C n) (h : mE M (n + 1) sc tl (.ife c a b) x = true) : SE C X x (evE F (.ife c a b)) ∧ (isIfE (.ife c a b) = false → SB C X x (tst (.ife c a b) (evE F (.ife c a b)))) := by
  simp only [mE] at h
  split at h
  · rename_i w y z e
    obtain ⟨pos, rfl⟩ := asIfe_eq e
    simp only [Bool.and_eq_true, Bool.not_eq_true'] at h
    obtain ⟨⟨⟨h1, h2⟩, h3⟩, h4⟩ := h
    exact ⟨se_eq (se_ife ((ih _ _ _ _ _ S h1).2 h2) (ih _ _ _ _ _ S h3).1 (ih _ _ _ _ _ S h4).1) (by funext r; simp only [evE]), fun q => by cases q⟩
  · cases h
theorem ok_idx {a b : Ex} {x : Expr} (S : Site M F k C sc tl X) (ih : Okn M F k C n) (h : mE M (n + 1) sc tl (.idx a b) x = true) : SE C X x (evE F (.idx a b)) ∧ (isIfE (.idx a b) = false → SB C X x (tst (.idx a b) (evE F (.idx a b)))) := by
  simp only [mE] at h
  split at h
  · rename_i y z e
    obtain ⟨ns, pos, rfl⟩ := asIdx_eq e
    simp only [Bool.and_eq_true] at h
    exact both rfl (se_eq (se_idx S.hk ns (so_mE S h.1 (ih _ _ _ _ _ S h.1).1) (so_mE S h.2 (ih _ _ _ _ _ S h.2).1)) (by funext r; simp only [evE])) S fun _ => rfl
  · cases h
theorem ok_slc {a lo hi : Ex} {x : Expr} (S : Site M F k C sc tl X) (ih : Okn M F k C n) (h : mE M (n + 1) sc tl (.slc a lo hi) x = true) : SE C X x (evE F (.slc a lo hi)) ∧ (isIfE (.slc a lo hi) = false → SB C X x (tst (.slc a lo hi) (evE F (.slc a lo hi)))) := by
  simp only [mE] at h
  split at h
  · rename_i y l hh e
    obtain ⟨p2, pos, rfl⟩ := asSlc_eq e
    simp only [Bool.and_eq_true] at h
    exact both rfl (se_eq (se_slc S.hk (so_mE S h.1.1 (ih _ _ _ _ _ S h.1.1).1) (sp_mP S ih h.1.2) (sp_mP S ih h.2)) (by funext r; simp only [evE])) S fun _ => rfl
  · cases h
theorem ok_rev {a : Ex} {x : Expr} (S : Site M F k C sc tl X) (ih : Okn M F k C n) (h : mE M (n + 1) sc tl (.rev a) x = true) : SE C X x (evE F (.rev a)) ∧ (isIfE (.rev a) = false → SB C X x (tst (.rev a) (evE F (.rev a)))) := by
  simp only [mE] at h
  split at h
  · rename_i y e
    obtain ⟨kk, p1, p2, p3, pos, rfl⟩ := asRev_eq e
    exact both rfl (se_eq (se_rev S.hk (so_mE S h (ih _ _ _ _ _ S h).1)) (by funext r; simp only [evE])) S fun _ => rfl
  · cases h
end
end VS
end

section
set_option autoImplicit false
set_option linter.all false
/-! VM6: calls, comprehensions, texts of parts, told; all expressions. -/
namespace VS
open PySem PySem.Spec PyProof.Rows L2 LamX

section
variable {M : ME} {F : Fns} {k : Nat} {C : RC} {sc scope : Scope} {tl : Wh} {X : Cx} {n : Nat}
theorem ok_call {j : Nat} {es : List Ex} {x : Expr} (S : Site M F k C sc tl X) (ih : Okn M F k C n) (h : mE M (n + 1) sc tl (.call j es) x = true) : SE C X x (evE F (.call j es)) ∧ (isIfE (.call j es) = false → SB C X x (tst (.call j es) (evE F (.call j es)))) := by
  simp only [mE] at h
  split at h
  · rename_i y xs f np e ef
    obtain ⟨p1, p, rfl⟩ := asCall_eq e
    simp only [Bool.and_eq_true, decide_eq_true_eq] at h
    obtain ⟨⟨⟨⟨⟨rfl, h2⟩, h3⟩, h4⟩, h5⟩, h6⟩ := h
    obtain ⟨fa, fd, pn, FO, hm, hk, hb⟩ := S.fs j _ np ef
    refine both rfl (se_eq (se_callU FO S.rm (S.gl h2) hm hk hb (okN_ok h3).1 h4 (sg_mE S ih es xs h5 h4) (fun r r' as e => by rw [evG_len e]; exact h6) fun e0 => ?_) (by funext r; simp only [evE])) S fun _ => rfl
    subst e0
    cases es with
    | nil => funext r; simp only [evG]
    | cons a as => cases h5
  · cases h
theorem ok_bi {b : Bi} {es : List Ex} {x : Expr} (S : Site M F k C sc tl X) (ih : Okn M F k C n) (h : mE M (n + 1) sc tl (.bi b es) x = true) : SE C X x (evE F (.bi b es)) ∧ (isIfE (.bi b es) = false → SB C X x (tst (.bi b es) (evE F (.bi b es)))) := by
  simp only [mE] at h
  split at h
  · rename_i y xs e
    obtain ⟨p1, p, rfl⟩ := asCall_eq e
    simp only [Bool.and_eq_true, decide_eq_true_eq, Bool.not_eq_true', List.isEmpty_eq_false_iff] at h
    obtain ⟨⟨⟨⟨⟨hb, rfl⟩, h2⟩, h3⟩, h4⟩, h5⟩ := h
    obtain ⟨x, xs, rfl⟩ := List.exists_cons_of_ne_nil h5
    have st := st_mE S ih es (x :: xs) h4 h3
    refine both rfl (se_eq (ev := fun r => (evT F es r).bind fun os r' => opL os (biD b) r') ?_ (by funext r; simp only [evE])) S fun _ => rfl
    cases b with
    | len => exact se_callB S.hk bc_len (S.gl h2) (S.mg _ (by decide)) rfl (by decide) (by decide) h3 st
    | sum => exact se_callB S.hk (bc_sum S.calm) (S.gl h2) (S.mg _ (by decide)) rfl (by decide) (by decide) h3 st
    | min => exact se_callB S.hk (bc_min S.calm) (S.gl h2) (S.mg _ (by decide)) rfl (by decide) (by decide) h3 st
    | max => exact se_callB S.hk (bc_max S.calm) (S.gl h2) (S.mg _ (by decide)) rfl (by decide) (by decide) h3 st
    | sorted => exact se_callB S.hk bc_sorted (S.gl h2) (S.mg _ (by decide)) rfl (by decide) (by decide) h3 st
    | list => exact se_callT S.hk bc_list (S.gl h2) (S.mg _ (by decide)) rfl (by decide) (by decide) h3 st
    | tuple => exact se_callT S.hk bc_tuple (S.gl h2) (S.mg _ (by decide)) rfl (by decide) (by decide) h3 st
    | abs => exact se_callB S.hk bc_abs (S.gl h2) (S.mg _ (by decide)) rfl (by decide) (by decide) h3 st
    | int => exact se_callT S.hk bc_int (S.gl h2) (S.mg _ (by decide)) rfl (by decide) (by decide) h3 st
    | str => exact se_callT S.hk bc_str (S.gl h2) (S.mg _ (by decide)) rfl (by decide) (by decide) h3 st
    | sum2 => cases hb
    | dict => cases hb
    | range1 => cases hb
    | range2 => cases hb
  · cases h
theorem ok_lc {e : Ex} {t : Tg} {s : Sc} {c : List Ex} {x : Expr} (S : Site M F k C sc tl X) (ih : Okn M F k C n) (h : mE M (n + 1) sc tl (.lc e t s c) x = true) : SE C X x (evE F (.lc e t s c)) ∧ (isIfE (.lc e t s c) = false → SB C X x (tst (.lc e t s c) (evE F (.lc e t s c)))) := by
  simp only [mE] at h
  split at h
  · rename_i y tg it ifs scope e1
    obtain ⟨p, rfl⟩ := asLc_eq e1
    simp only [Bool.and_eq_true] at h
    obtain ⟨⟨⟨⟨h1, h2⟩, h3⟩, h4⟩, h5⟩ := h
    obtain ⟨hi, hf⟩ := si_mW S ih h1
    refine both rfl (se_eq (se_lc (mc := evC F c) (me := evE F e) (own := ownT M (namesT t)) S.calm (S.hN ▸ S.nd) hi (by rw [S.hs, S.hN]; exact blkOk_by h2) (ownT_snd M _) (fun s H E cl fp => ?_) (fun s H E cl fp => ?_) (fun s H E cl fp => ?_) hf) (by funext r; simp only [evE, lcEv])) S fun _ => rfl
    · exact pg_mT (X := Blk X scope s H E cl fp) S.hN S.nd S.hk S.calm (fun y hy => blkSt_ok hy S.hs) n t tg h3
    · exact sbs_mC (S.blk s H E cl fp) ih h4
    · exact (ih _ _ _ _ _ (S.blk s H E cl fp) h5).1
  · cases h
theorem ok_lc1 {e : Ex} {i : Nat} {s : Sc} {x : Expr} (S : Site M F k C sc tl X) (ih : Okn M F k C n) (h : mE M (n + 1) sc tl (.lc1 e i s) x = true) : SE C X x (evE F (.lc1 e i s)) ∧ (isIfE (.lc1 e i s) = false → SB C X x (tst (.lc1 e i s) (evE F (.lc1 e i s)))) := by
  simp only [mE] at h
  split at h
  · rename_i y tg it scope e1
    obtain ⟨p, rfl⟩ := asLc_eq e1
    simp only [Bool.and_eq_true] at h
    obtain ⟨⟨⟨h1, h2⟩, h3⟩, h5⟩ := h
    obtain ⟨hi, hf⟩ := si_mW S ih h1
    refine both rfl (se_eq (se_lc1 (me := evE F e) (own := ownT M [i]) S.calm (S.hN ▸ S.nd) hi (by rw [S.hs, S.hN]; exact blkOk_by h2) (ownT_snd M _) (fun s H E cl fp => ?_) (fun s H E cl fp => ?_) hf) (by funext r; simp only [evE, lc1Ev])) S fun _ => rfl
    · exact pg_mT (X := Blk X scope s H E cl fp) S.hN S.nd S.hk S.calm (fun y hy => blkSt_ok hy S.hs) n (.nm i) tg h3
    · exact (ih _ _ _ _ _ (S.blk s H E cl fp) h5).1
  · cases h
/-- a text's parts -/
theorem parts (S : Site M F k C sc tl X) (ih : Okn M F k C n) : ∀ (es : List Ex) (xs : List Expr), all2 (mF (mE M n sc tl)) es xs = true → ∃ ms, Paired (fun e m => SF C X e m) xs ms ∧ ∀ acc r, evF F es acc r = .no ∨ evF F es acc r = evJ ms acc r
  | [], xs, h => by
    rw [all2_nil h]
    exact ⟨[], .nil, fun acc r => .inr (by simp only [evF, evJ])⟩
  | e :: es, xs, h => by
    obtain ⟨x, xs, rfl, h1, h2⟩ := all2_cons h
    obtain ⟨ms, p, q⟩ := parts S ih es xs h2
    rcases mF_or h1 with ⟨s, kk, pos, rfl, rfl⟩ | ⟨y, pos, rfl, h3⟩
    · skip
      refine ⟨(fun r => .ok s r) :: ms, .cons sf_str p, fun acc r => ?_⟩
      simp only [evF, evJ, trans, R.bind, opd, evE, res, fmtD]
      by_cases hf : few s.length = true
      · rw [hf]
        simp only [if_true]
        split
        · exact q _ _
        · exact .inl rfl
      · simp only [hf]
        exact .inl rfl
    · skip
      refine ⟨fmtP (opd e (evE F e)) :: ms, .cons (sf_fmt (so_mE S h3 (ih _ _ _ _ _ S h3).1)) p, fun acc r => ?_⟩
      simp only [evF, evJ, trans, fmtP, R.bind_assoc]
      cases opd e (evE F e) r with
      | no => exact .inl rfl
      | ex c r1 => exact .inr rfl
      | ok o r1 =>
        simp only [R.bind]
        cases res r1 o with
        | none => exact .inl rfl
        | some d =>
          simp only [Option.bind_some]
          cases fmtD d with
          | none => exact .inl rfl
          | some t =>
            simp only
            split
            · exact q _ _
            · exact .inl rfl
theorem ok_fst {es : List Ex} {x : Expr} (S : Site M F k C sc tl X) (ih : Okn M F k C n) (h : mE M (n + 1) sc tl (.fst es) x = true) : SE C X x (evE F (.fst es)) ∧ (isIfE (.fst es) = false → SB C X x (tst (.fst es) (evE F (.fst es)))) := by
  simp only [mE] at h
  split at h
  · rename_i xs e
    obtain ⟨pos, rfl⟩ := asFst_eq e
    simp only [Bool.and_eq_true, Bool.not_eq_true', List.isEmpty_eq_false_iff] at h
    obtain ⟨ms, p, q⟩ := parts S ih es xs h.1
    have l : ∀ r, evE F (.fst es) r = .no ∨ evE F (.fst es) r = (evJ ms [] r).bind fun t r1 => .ok (.val, .str t) r1 := fun r => by
      simp only [evE]
      rcases q [] r with e | e
      · rw [e]; exact .inl rfl
      · rw [e]; exact .inr rfl
    refine both rfl ?_ S fun _ => rfl
    match xs, ms, p, h.2, l with
    | [v1], [m], .cons a .nil, _, l => exact SE.le (se_fst1 a) l
    | v1 :: v2 :: rest, ms, p, _, l => exact SE.le (se_fst p) l
  · cases h
theorem noArgs_eq {ar : Arguments} (h : noArgs ar = true) : ar = ⟨[], [], none, [], [], none, []⟩ := by
  unfold noArgs at h
  split at h
  · rfl
  · cases h
theorem ok_told {e : Ex} {cs z : List Nat} {x : Expr} (S : Site M F k C sc tl X) (ih : Okn M F k C n) (h : mE M (n + 1) sc tl (.told e cs z) x = true) : SE C X x (evE F (.told e cs z)) ∧ (isIfE (.told e cs z) = false → SB C X x (tst (.told e cs z) (evE F (.told e cs z)))) := by
  simp only [mE] at h
  split at h
  · rename_i y l e1
    obtain ⟨p1, p, rfl⟩ := asCall_eq e1
    split at h
    · rename_i ar bd lsc pl e2
      have e2 := asLam_eq e2
      subst e2
      simp only [Bool.and_eq_true, decide_eq_true_eq, Bool.not_eq_true'] at h
      obtain ⟨⟨⟨⟨⟨⟨⟨⟨ht, rfl⟩, h2⟩, rfl⟩, rfl⟩, h5⟩, h6⟩, h7⟩, h8⟩ := h
      have := noArgs_eq h5
      subst this
      obtain ⟨hr, a, g, cd, tb, CS, pg, bg, sg, dV, kV, doc, pm, cdv, ct, oc, an, od, osl, Ng, t1, t2, t3, t4, t5, t6, t7, t8, t9, t10, t11, t12, t13, t14, t15, t16⟩ := S.td ht
      refine both rfl (se_eq (ev := toldEv (evE F e) M.cs M.z) (fun W tk => ?_) (by funext r; simp only [evE, toldEv] <;> (cases evE F e r <;> rfl))) S fun _ => rfl
      refine PE.imp (pe_lamD (t := fun E => tX C (fun cls d _ H' => E cls d H') (evE F e) (GE C)) (S.gl h2) t1 t2 t3 t4 t5 t6 t7 t8 t9 t10 t11 t12 t13 h8 hr (by rw [S.hs]; exact lamS_by h6) rfl (fun q cl pm cv ctv => rfl) (fun A outer s H E f c' r => ?_) (okN_ok t14).1 (okN_ok t15).1 (okN_ok t15).2.1) fun σ H Q h => imp_told t16 h
      exact (ih _ _ _ _ _ (S.lam r) h7).1 _ lam_takes
    · cases h
  · cases h
theorem ok_gn {g : Gn} {e : Ex} {t : Tg} {s : Sc} {c : List Ex} {x : Expr} (S : Site M F k C sc tl X) (ih : Okn M F k C n) (h : mE M (n + 1) sc tl (.gn g e t s c) x = true) : SE C X x (evE F (.gn g e t s c)) ∧ (isIfE (.gn g e t s c) = false → SB C X x (tst (.gn g e t s c) (evE F (.gn g e t s c)))) := by
  simp only [mE] at h
  split at h
  · rename_i y gx e1
    obtain ⟨p1, p, rfl⟩ := asCall_eq e1
    split at h
    · rename_i elt tg it ifs scope gp e2
      have e2 := asGen_eq e2
      subst e2
      simp only [Bool.and_eq_true, decide_eq_true_eq] at h
      obtain ⟨⟨⟨⟨⟨⟨⟨⟨⟨⟨⟨h1, h2⟩, rfl⟩, h4⟩, h5⟩, h6⟩, h7⟩, h8⟩, h9⟩, h10⟩, h11⟩, h12⟩ := h
      obtain ⟨hr, cd, tb, nm, q1, q2, q3, q4⟩ := S.ge h1
      have st : GSite X C.T gp := ⟨cd, tb, nm, tl.G, q1, q2, q3, q4, h5⟩
      obtain ⟨hi, hf⟩ := si_mW S ih h6
      simp only [genSc, Bool.and_eq_true, Bool.not_eq_true', decide_eq_true_eq, List.all_eq_true, decide_eq_false_iff_not] at h9
      simp only [mW, Bool.and_eq_true] at h6
      have sem : GSem C X k tg elt it ifs scope (ownT M (namesT t)) t (evSc F s) (evC F c) (evE F e) := by
        refine ⟨S.hk, by rw [S.hs, S.hN]; exact blkOk_by h8, ownT_snd M _, S.hN ▸ S.nd, h9.1.1, h9.1.2, h9.2, hi, gfold_no h6.1 h7 _, fun A s4 H code fp pn r => ?_, fun A s4 H code fp pn r => ?_, fun A s4 H code fp pn r => ?_⟩
        · exact pg_mT (X := genCx X A s4 H (gEnv X scope s4 code) fp pn) S.hN S.nd S.hk rfl (fun y hy => ⟨.inl (of_decide_eq_true hy), .inr (of_decide_eq_true hy)⟩) n t tg h10
        · exact sbs_mC (S.gen r) ih h11
        · exact (ih _ _ _ _ _ (S.gen r) h12).1
      have ev : evE F (.gn g e t s c) = gnEv g t (evSc F s) (evC F c) (evE F e) := by funext r; simp only [evE]
      refine both rfl ?_ S fun _ => rfl
      rw [ev]
      cases g with
      | any => exact se_gnAny sem hr (S.gl h4) (S.mg _ (by decide)) st
      | all => exact se_gnAll sem hr (S.gl h4) (S.mg _ (by decide)) st
      | sum => exact se_gnSum sem hr (S.gl h4) (S.mg _ (by decide)) st
      | sorted => exact se_gnSorted sem hr (S.gl h4) (S.mg _ (by decide)) st
      | tuple => exact se_gnTuple sem hr (S.gl h4) (S.mg _ (by decide)) st
      | min => cases h2
      | max => cases h2
    · cases h
  · cases h
theorem lamOk_parts {i : Nat} {pr : Arguments} {bd : Expr} {lsc : Scope} (hs : X.env.scope = sc) (h : lamOkM M sc i pr bd lsc) : LamS X.env.scope lsc ∧ ∀ (q : PySem.Str) (cl : List (PySem.Str × Addr)) (pm cv ctv : Value), bindArgs (PySem.W.kla_fn "<lambda>" q pr bd lsc cl pm cv ctv) ⟨[], []⟩ = pure [] := by
  obtain ⟨h1, h2, _⟩ := h
  have := noArgs_eq h1
  subst this
  exact ⟨by rw [hs]; exact lamS_by h2, fun q cl pm cv ctv => rfl⟩
theorem ok_refused {x1 kk f m : Nat} {cs z : List Nat} {x : Expr} (S : Site M F k C sc tl X) (h : mE M (n + 1) sc tl (.refused x1 kk f m cs z) x = true) : SE C X x (evE F (.refused x1 kk f m cs z)) ∧ (isIfE (.refused x1 kk f m cs z) = false → SB C X x (tst (.refused x1 kk f m cs z) (evE F (.refused x1 kk f m cs z)))) := by
  simp only [mE] at h
  split at h
  · rename_i q e1
    obtain ⟨p0, p1, p2, k2, p3, p4, p5, p6, p7, p8, p9, j, p10, p11, p12, rfl⟩ := asRef_eq e1
    obtain ⟨yk, yk1, yf, en, yx, told, yf2, zz, scope⟩ := q
    simp only [Bool.and_eq_true, decide_eq_true_eq] at h
    obtain ⟨⟨⟨⟨⟨⟨⟨⟨⟨⟨⟨⟨⟨⟨⟨⟨⟨⟨⟨⟨⟨h1, rfl⟩, rfl⟩, rfl⟩, rfl⟩, rfl⟩, rfl⟩, rfl⟩, rfl⟩, h10⟩, h11⟩, h12⟩, h13⟩, h14⟩, h15⟩, h16⟩, h17⟩, h18⟩, h19⟩, h20⟩, h21⟩, h22⟩ := h
    obtain ⟨hr, cd, tb, nm, CS, a, g, pg, bg, sg, dV, kV, doc, pm, cdv, ct, oc, an, od, osl, Ng, LS, hC, TD, hcs, hb⟩ := S.rf h1
    have ev : evE F (.refused x1 kk f M.ol.length M.cs M.z) = refEv x1 kk f M.ol.length F.lam M.cs M.z := by funext r; simp only [evE, refEv] <;> (cases getF r x1 <;> rfl)
    simp only [varB, Bool.and_eq_true, decide_eq_true_eq] at h12
    obtain ⟨⟨v1, v2⟩, v3⟩ := h12
    obtain ⟨k1, k2', _⟩ := okN_ok h17
    obtain ⟨f1, f2, _⟩ := okN_ok h18
    obtain ⟨x1', x2', _⟩ := okN_ok v3
    have bk := blkSt_ok (X := X) h15 (s := {}) (H := fun _ => none) (E := 0) (cl := []) (fp := []) S.hs
    have bf := blkSt_ok (X := X) h16 (s := {}) (H := fun _ => none) (E := 0) (cl := []) (fp := []) S.hs
    refine both rfl ?_ S fun _ => rfl
    rw [ev, hC]
    refine se_refused TD hcs h20 (Nat.le_trans h21 (by decide)) h22 S.calm (S.hN ▸ S.nd) hr S.un (S.gl h13) (S.mg _ (by decide)) (by rw [S.hs, S.hN]; exact blkOk_by h14) (by rw [S.hN]; exact v1) (by rw [S.hs]; exact visB_ok v2) x1' x2'
      (by rw [S.hN]; exact h10) (by rw [S.hN]; exact h11) bk.1 bf.1 bk.2 bf.2 k1 k2' f1 f2 (by rw [S.hs]; exact h19) fun i pr bd lsc hl => ?_
    obtain ⟨L, hbind⟩ := lamOk_parts S.hs hl
    refine ⟨L, hbind, fun A outer s H E f c' r => ?_⟩
    rw [← hC]
    exact hb i pr bd lsc hl A outer s H E f c' r
  · cases h
theorem okn : ∀ n, Okn M F k C n
  | 0 => fun sc tl X a x S h => by cases h
  | n + 1 => fun sc tl X a x S h => by
    have ih := okn n
    cases a with
    | non => exact ok_con S h (.inr (.inl rfl))
    | bl b => exact ok_con S h (.inl ⟨_, rfl⟩)
    | int i => exact ok_con S h (.inr (.inr (.inl ⟨_, rfl⟩)))
    | str s => exact ok_con S h (.inr (.inr (.inr ⟨_, rfl⟩)))
    | var i => exact ok_var S h
    | tup es => exact ok_seq S ih true h
    | lst es => exact ok_seq S ih false h
    | bin o a b => exact ok_bin S ih h
    | neg a => exact ok_neg S ih h
    | not a => exact ok_not S ih h
    | cmp o a b => exact ok_cmp S ih h
    | cmp2 o o' a b c => exact ok_cmp2 S ih h
    | and es => exact ok_and S ih h
    | or es => exact ok_or S ih h
    | ife c a b => exact ok_ife S ih h
    | idx a b => exact ok_idx S ih h
    | slc a lo hi => exact ok_slc S ih h
    | rev a => exact ok_rev S ih h
    | call j es => exact ok_call S ih h
    | bi b es => exact ok_bi S ih h
    | lc e t s c => exact ok_lc S ih h
    | lc1 e i s => exact ok_lc1 S ih h
    | fst es => exact ok_fst S ih h
    | told e cs z => exact ok_told S ih h
    | gn g e t s c => exact ok_gn S ih h
    | refused x1 kk f m cs z => exact ok_refused S h
    | _ => simp only [mE] at h; cases h
end
end VS
end

section
set_option autoImplicit false
set_option linter.all false
/-! VM7: the checker of statements. -/
namespace VS
open PySem PySem.Spec PyProof.Rows L2 LamX

def noComp : Expr → Bool
  | .ListComp .. => false
  | .SetComp .. => false
  | .DictComp .. => false
  | _ => true
theorem sw_no {e : Expr} (h : noComp e = true) (t : Option Expr) (l : Nat) (env : Env) : swapsWith e t l env = pure false := by
  cases e <;> first | rfl | simp [noComp] at h
/-- nothing is cleared -/
def noSw (sc : Scope) (y : PySem.Str) (v : Expr) : Bool := noComp v || match v with
  | .ListComp .. => decide (sc.names.lookup y = some .cell)
  | _ => false
theorem sw_noN {sc : Scope} {y : PySem.Str} {e : Expr} (h : noSw sc y e = true) (py : Pos) (l : Nat) {env : Env} (hs : env.scope = sc) : swapsWith e (some (.Name y py)) l env = pure false := by
  unfold noSw at h
  rw [Bool.or_eq_true] at h
  rcases h with h | h
  · exact sw_no h _ _ _
  · split at h
    · have h' := of_decide_eq_true h
      have k : env.kindOf y = some .cell := by unfold Env.kindOf; rw [hs]; exact h'
      unfold swapsWith
      simp only [k]
      have : (some NameKind.cell == some NameKind.local) = false := by decide
      simp [this]
    · cases h
def isLc : Ex → Bool
  | .lc .. => true
  | _ => false
def lclB (sc : Scope) (y : PySem.Str) : Bool := decide (sc.names.lookup y = some .local)
/-- the list that a name held is cleared for the new one -/
def swB (sc : Scope) (y : PySem.Str) (py : Pos) (v : Expr) : Bool := match v with
  | .ListComp _ _ scope p => (py.line == p.line) && lclB sc y && !(scope.names.any fun (n, k) => n == y && (k == .local || k == .cell))
  | _ => false
/-- a, b = x, y -/
def parB (sc : Scope) (t : Tg) (tg : Expr) (e : Ex) (v : Expr) : Bool := match t, tg, e, v with
  | .tup ts, .Tuple tgs _ _, .tup _, .Tuple vs _ _ => match swapT (fun y => sc.names.lookup y) tgs vs with
    | some none => true
    | some (some ns) => match ts, tgs, vs with
      | [.nm i, .nm j], [.Name x _, .Name y _], [_, _] => decide (ns = [x, y]) && decide (i ≠ j) && lclB sc x && lclB sc y
      | [.nm i, .nm j, .nm l], [.Name x _, .Name y _, .Name z _], [_, _, _] => decide (ns = [x, y, z]) && decide (i ≠ j) && decide (i ≠ l) && decide (j ≠ l) && lclB sc x && lclB sc y && lclB sc z
      | _, _, _ => false
    | none => false
  | _, _, _, _ => false
/-- does the own statement bear the given one? m: the fuel for expressions -/
def mS (M : ME) (er : List PySem.Str) (m : Nat) (sc : Scope) : Nat → St → Stmt → Bool
  | 0, _, _ => false
  | n + 1, s, x => match s with
    | .asg i e => match x with
      | .Assign [.Name y py] v pos => decide (M.N[i]? = some y) && locB sc y && mE M m sc M.tl e v && (noSw sc y v || (isLc e && swB sc y py v))
      | _ => false
    | .unp t e => match x with
      | .Assign [tg] v _ => mT M (locB sc) m t tg && mE M m sc M.tl e v && isTupT tg && (!isTupE v || parB sc t tg e v)
      | _ => false
    | .set x1 i e => match x with
      | .Assign [.Subscript (.Name y _) ie _] v _ => varB M sc x1 y && noSlc ie && mE M m sc M.tl e v && mE M m sc M.tl i ie
      | _ => false
    | .aug o x1 e => match x with
      | .AugAssign (.Name y _) op v _ => decide (op = opB o) && decide (M.N[x1]? = some y) && locB sc y && mE M m sc M.tl e v
      | _ => false
    | .augs o x1 i e => match x with
      | .AugAssign (.Subscript (.Name y _) ie _) op v _ => decide (op = opB o) && varB M sc x1 y && noSlc ie && mE M m sc M.tl i ie && mE M m sc M.tl e v
      | _ => false
    | .exp e => match x with
      | .Expr v _ => mE M m sc M.tl e v && noComp v
      | _ => false
    | .ret e => match x with
      | .Return (some v) _ => mE M m sc M.tl e v
      | _ => false
    | .ret0 => match x with
      | .Return none _ => true
      | _ => false
    | .ifs c a b => match x with
      | .If t a' b' _ => mE M m sc M.tl c t && !isIfE c && all2 (mS M er m sc n) a a' && all2 (mS M er m sc n) b b'
      | _ => false
    | .for t w b => match x with
      | .For tg it b' [] _ => mW (mE M m sc M.tl) sc tg w it && mT M (locB sc) m t tg && all2 (mS M er m sc n) b b'
      | _ => false
    | .whl c b => match x with
      | .While t b' [] _ => mE M m sc M.tl c t && !isIfE c && all2 (mS M er m sc n) b b'
      | _ => false
    | .for1 i e b => match x with
      | .For (.Name y _) it b' [] _ => decide (M.N[i]? = some y) && locB sc y && noSet it && mE M m sc M.tl e it && all2 (mS M er m sc n) b b'
      | _ => false
    | .raise c => match x with
      | .Raise (some (.Call (.Name y _) [.Constant (.str _) _ _] [] _)) none _ => decide (er[c]? = some y) && glB sc y && okN y
      | _ => false
    | .pass => match x with
      | .Pass _ => true
      | .Expr (.Constant (.str _) _ _) _ => true
      | _ => false
    | .lams i n => match x with
      | .Assign [.Name y _] (.List es _) _ => M.tl.rf && decide (M.N[i]? = some y) && locB sc y && decide (es.length = n) && decide (n ≤ 1000) && all2 (lamB M sc) (M.ol.take n) es
      | _ => false
    | .lamsAdd i m' n => match x with
      | .Assign [.Name y _] (.BinOp (.Name y' _) .Add (.List es _) _) _ => M.tl.rf && decide (M.N[i]? = some y) && locB sc y && decide (y' = y) && okN y && decide (es.length = n) && decide (m' + n ≤ 1000) && all2 (lamB M sc) ((M.ol.drop m').take n) es
      | _ => false
    | .brk => match x with
      | .Break _ => true
      | _ => false
    | .cont => match x with
      | .Continue _ => true
      | _ => false
    | _ => false
/-- a place where own statements may stand -/
structure SiteS (M : ME) (er : List PySem.Str) (F : Fns) (k : Nat) (C : RC) (sc : Scope) (X : Cx) : Prop extends Site M F k C sc M.tl X where
  hp : PassesOwn (model X.prog X.w) X.A X.env X.xe
  kd : sc.kind = .function
  fn : ∀ y, X.fn y = true
  er : ∀ (c : Nat) (y : PySem.Str), er[c]? = some y → okN y = true → Gl X y → ∀ (s : PySem.Str) (j : Nat) (p p2 pos : Pos), PMk X (.Call (.Name y p) [.Constant (.str s) j p2] [] pos) (fun _ H Q => Q (C.cv c) none H)
end VS
end

section
set_option autoImplicit false
set_option linter.all false
/-! VM8: a statement that passes the checker does what the evaluator says. -/
namespace VS
open PySem PySem.Spec PyProof.Rows L2 LamX

section
variable {M : ME} {er : List PySem.Str} {F : Fns} {k : Nat} {C : RC} {sc : Scope} {X : Cx} {m n : Nat}
theorem ss_eq {x : Stmt} {ev ev' : Rho → SR} (h : SS C X x ev) (e : ev' = ev) : SS C X x ev' := e ▸ h
theorem SiteS.nd' (S : SiteS M er F k C sc X) : X.N.Nodup := S.hN ▸ S.nd
theorem SiteS.ix (S : SiteS M er F k C sc X) {i : Nat} {y : PySem.Str} (h : M.N[i]? = some y) : X.N[i]? = some y := by rw [S.hN]; exact h
theorem SiteS.lc (S : SiteS M er F k C sc X) {y : PySem.Str} (h : locB sc y = true) : L2.Loc X.env.scope y := by rw [S.hs]; exact locB_ok h
theorem SiteS.ll (S : SiteS M er F k C sc X) {y : PySem.Str} (h : lclB sc y = true) : X.env.scope.names.lookup y = some .local := by rw [S.hs]; exact of_decide_eq_true h
theorem SiteS.pg (S : SiteS M er F k C sc X) {t : Tg} {x : Expr} (h : mT M (locB sc) m t x = true) : PG X x (gT C (namesT t) (bindT t)) :=
  pg_mT S.hN S.nd S.hk S.calm (fun y hy => ⟨S.lc hy, .inl (S.fn y)⟩) m t x h
theorem SiteS.bk (S : SiteS M er F k C sc X) : X.env.blockKind = .function := by
  unfold Env.blockKind
  rw [S.hs, S.kd]
  rfl
theorem st_asg {i : Nat} {e : Ex} {x : Stmt} (S : SiteS M er F k C sc X) (h : mS M er m sc (n + 1) (.asg i e) x = true) : SS C X x (evS F (.asg i e)) := by
  simp only [mS] at h
  split at h
  · rename_i y py v pos
    simp only [Bool.and_eq_true, decide_eq_true_eq, Bool.or_eq_true] at h
    obtain ⟨⟨⟨h1, h2⟩, h3⟩, h4⟩ := h
    have ev : evS F (.asg i e) = asgR i (evE F e) := by funext r; simp only [evS, asgR]
    rw [ev]
    rcases h4 with h4 | ⟨h4, h5⟩
    · exact ss_asg S.nd' (S.ix h1) (S.lc h2) (okn m _ _ _ _ _ S.toSite h3).1 (sw_noN h4 _ _ S.hs) (.inl (S.fn y))
    · cases e <;> simp [isLc] at h4
      rename_i e t s c
      cases m with
      | zero => cases h3
      | succ m =>
        have ih := okn (M := M) (F := F) (k := k) (C := C) m
        simp only [mE] at h3
        split at h3
        · rename_i yy tg it ifs scope e1
          obtain ⟨p, rfl⟩ := asLc_eq e1
          simp only [Bool.and_eq_true] at h3
          obtain ⟨⟨⟨⟨g1, g2⟩, g3⟩, g4⟩, g5⟩ := h3
          obtain ⟨hi, hf⟩ := si_mW S.toSite ih g1
          simp only [swB, Bool.and_eq_true, Bool.not_eq_true'] at h5
          have ev2 : evE F (.lc e t s c) = lcEv t (evSc F s) (evC F c) (evE F e) := by funext r; simp only [evE, lcEv]
          rw [ev2]
          refine ss_setLc (own := ownT M (namesT t)) S.calm S.nd' (S.ix h1) (S.ll h5.1.2) (sw_true (by rw [S.hs]; exact S.kd) (S.ll h5.1.2) h5.1.1 h5.2) hi (by rw [S.hs, S.hN]; exact blkOk_by g2) (ownT_snd M _) (fun s H E cl fp => ?_) (fun s H E cl fp => ?_) (fun s H E cl fp => ?_) hf
          · exact pg_mT (X := Blk X scope s H E cl fp) S.hN S.nd S.hk S.calm (fun y hy => blkSt_ok hy S.hs) m t tg g3
          · exact sbs_mC (S.toSite.blk s H E cl fp) ih g4
          · exact (ih _ _ _ _ _ (S.toSite.blk s H E cl fp) g5).1
        · cases h3
  · cases h
theorem unp_par {ts : List Tg} {es : List Ex} : evS F (.unp (.tup ts) (.tup es)) = unpL ts (evL F es) := by
  funext r
  simp only [evS, evE, unpL]
  cases evL F es r with
  | no => rfl
  | ex c r1 => rfl
  | ok ds r1 =>
    simp only [R.bind, R.bindS, bindT] <;> (cases bindTs ts ds r1 <;> rfl)
theorem st_unp {t : Tg} {e : Ex} {x : Stmt} (S : SiteS M er F k C sc X) (h : mS M er m sc (n + 1) (.unp t e) x = true) : SS C X x (evS F (.unp t e)) := by
  simp only [mS] at h
  split at h
  · rename_i tg v pos
    simp only [Bool.and_eq_true, Bool.or_eq_true, Bool.not_eq_true'] at h
    obtain ⟨⟨⟨h1, h2⟩, h3⟩, h4⟩ := h
    cases tg <;> simp [isTupT] at h3
    rename_i tgs kt pt
    have ev : evS F (.unp t e) = unpEv t (evE F e) := by funext r; simp only [evS, unpEv] <;> congr 1
    rcases h4 with h4 | h4
    · rw [ev]
      exact ss_unp (okn m _ _ _ _ _ S.toSite h2).1 (S.pg h1) sws_tup (swp_no h4) rfl
    · unfold parB at h4
      split at h4
      · rename_i ts tgs' kt' pt' es vs k2 p2 etg
        cases etg
        have kf : X.env.kindOf = fun y => sc.names.lookup y := by funext y; unfold Env.kindOf; rw [S.hs]
        split at h4
        · rename_i es0
          rw [ev]
          exact ss_unp (okn m _ _ _ _ _ S.toSite h2).1 (S.pg h1) sws_tup (swap_T S.bk (by rw [kf]; exact es0)) rfl
        · rename_i ns es0
          have sw := swap_T (kt := kt) (pt := pt) (k2 := k2) (p2 := p2) S.bk (by rw [kf]; exact es0)
          have vl : SL C X vs (evL F es) := by
            cases m with
            | zero => cases h2
            | succ m =>
              simp only [mE, asTup, Bool.and_eq_true] at h2
              exact sl_mE S.toSite (okn m) es vs h2.1.2 h2.1.1
          have ix : ∀ {i : Nat} {y : PySem.Str} {p : Pos}, mT M (locB sc) m (.nm i) (.Name y p) = true → X.N[i]? = some y := fun {i y p} h => by
            cases m with
            | zero => cases h
            | succ m =>
              simp only [mT, asName, Bool.and_eq_true, decide_eq_true_eq] at h
              exact S.ix h.1
          split at h4
          · rename_i i j x px y py a b
            simp only [Bool.and_eq_true, decide_eq_true_eq] at h4
            obtain ⟨⟨⟨rfl, h5⟩, h6⟩, h7⟩ := h4
            rw [unp_par]
            have hx : X.N[i]? = some x ∧ X.N[j]? = some y := by
              cases m with
              | zero => cases h1
              | succ m =>
                cases m with
                | zero => simp [mT, asTup, all2] at h1
                | succ m =>
                  simp only [mT, asTup, asName, all2, Bool.and_eq_true, decide_eq_true_eq] at h1
                  exact ⟨S.ix h1.2.1.1, S.ix h1.2.2.1.1⟩
            exact ss_par2 S.calm S.nd' hx.1 hx.2 h5 (S.ll h6) (S.ll h7) vl sw
          · rename_i i j l x px y py z pz a b c
            simp only [Bool.and_eq_true, decide_eq_true_eq] at h4
            obtain ⟨⟨⟨⟨⟨⟨rfl, h5⟩, h6⟩, h7⟩, h8⟩, h9⟩, h10⟩ := h4
            rw [unp_par]
            have hx : X.N[i]? = some x ∧ X.N[j]? = some y ∧ X.N[l]? = some z := by
              cases m with
              | zero => cases h1
              | succ m =>
                cases m with
                | zero => simp [mT, asTup, all2] at h1
                | succ m =>
                  simp only [mT, asTup, asName, all2, Bool.and_eq_true, decide_eq_true_eq] at h1
                  exact ⟨S.ix h1.2.1.1, S.ix h1.2.2.1.1, S.ix h1.2.2.2.1.1⟩
            exact ss_par3 S.calm S.nd' hx.1 hx.2.1 hx.2.2 h5 h6 h7 (S.ll h8) (S.ll h9) (S.ll h10) vl sw
          · cases h4
        · cases h4
      · cases h4
  · cases h
end
end VS
end

section
set_option autoImplicit false
set_option linter.all false
/-! VM9: all statements that pass the checker. -/
namespace VS
open PySem PySem.Spec PyProof.Rows L2 LamX

section
variable {M : ME} {er : List PySem.Str} {F : Fns} {k : Nat} {C : RC} {sc : Scope} {X : Cx} {m n : Nat}
/-- what is shown of statements that pass with n -/
def Oks (M : ME) (er : List PySem.Str) (F : Fns) (C : RC) (sc : Scope) (X : Cx) (m n : Nat) : Prop := ∀ (s : St) (x : Stmt), mS M er m sc n s x = true → SS C X x (evS F s)
theorem sss (ih : Oks M er F C sc X m n) : ∀ (ss : List St) (xs : List Stmt), all2 (mS M er m sc n) ss xs = true → SSs C X xs (evSs F ss)
  | [], xs, h => by
    rw [all2_nil h, show evSs F [] = fun r => .nx r from by funext r; simp only [evSs]]
    exact ss_nil
  | s :: ss, xs, h => by
    obtain ⟨x, xs, rfl, h1, h2⟩ := all2_cons h
    rw [show evSs F (s :: ss) = seqS (evS F s) (evSs F ss) from by funext r; simp only [evSs, seqS] <;> (cases evS F s r <;> rfl)]
    exact ss_cons (ih s x h1) (sss ih ss xs h2)
theorem tstX (S : SiteS M er F k C sc X) {c : Ex} {x : Expr} (h : mE M m sc M.tl c x = true) (n : isIfE c = false) : SB C X x (tst c (evE F c)) := (okn m _ _ _ _ _ S.toSite h).2 n
theorem soX (S : SiteS M er F k C sc X) {c : Ex} {x : Expr} (h : mE M m sc M.tl c x = true) : SO C X x (opd c (evE F c)) := so_mE S.toSite h (okn m _ _ _ _ _ S.toSite h).1
theorem st_set {i : Nat} {e1 e2 : Ex} {x : Stmt} (S : SiteS M er F k C sc X) (h : mS M er m sc (n + 1) (.set i e1 e2) x = true) : SS C X x (evS F (.set i e1 e2)) := by
  simp only [mS] at h
  split at h
  · rename_i y p1 ie p2 v pos
    simp only [Bool.and_eq_true] at h
    obtain ⟨⟨⟨h1, h2⟩, h3⟩, h4⟩ := h
    exact ss_eq (ss_set h2 (S.pv h1) (okn m _ _ _ _ _ S.toSite h3).1 (soX S h4)) (by funext r; simp only [evS, setEv]; try congr 1)
  · cases h
theorem st_aug {o : BOp} {i : Nat} {e : Ex} {x : Stmt} (S : SiteS M er F k C sc X) (h : mS M er m sc (n + 1) (.aug o i e) x = true) : SS C X x (evS F (.aug o i e)) := by
  simp only [mS] at h
  split at h
  · rename_i y p1 op v pos
    simp only [Bool.and_eq_true, decide_eq_true_eq] at h
    obtain ⟨⟨⟨rfl, h2⟩, h3⟩, h4⟩ := h
    exact ss_eq (ss_aug S.hk S.nd' (S.ix h2) (S.lc h3) (soX S h4) (.inl (S.fn y))) (by funext r; simp only [evS, augEv] <;> (cases getS r i <;> rfl))
  · cases h
theorem st_augs {o : BOp} {i : Nat} {e1 e2 : Ex} {x : Stmt} (S : SiteS M er F k C sc X) (h : mS M er m sc (n + 1) (.augs o i e1 e2) x = true) : SS C X x (evS F (.augs o i e1 e2)) := by
  simp only [mS] at h
  split at h
  · rename_i y p1 ie p2 op v pos
    simp only [Bool.and_eq_true, decide_eq_true_eq] at h
    obtain ⟨⟨⟨⟨rfl, h2⟩, h3⟩, h4⟩, h5⟩ := h
    exact ss_eq (ss_augs S.hk h3 (S.pv h2) (soX S h4) (soX S h5)) (by funext r; simp only [evS, augsEv] <;> (cases getS r i <;> try congr 1))
  · cases h
theorem st_exp {e : Ex} {x : Stmt} (S : SiteS M er F k C sc X) (h : mS M er m sc (n + 1) (.exp e) x = true) : SS C X x (evS F (.exp e)) := by
  simp only [mS] at h
  split at h
  · simp only [Bool.and_eq_true] at h
    exact ss_eq (ss_exp (okn m _ _ _ _ _ S.toSite h.1).1 (sw_no h.2 _ _ _)) (by funext r; simp only [evS])
  · cases h
theorem st_ret {e : Ex} {x : Stmt} (S : SiteS M er F k C sc X) (h : mS M er m sc (n + 1) (.ret e) x = true) : SS C X x (evS F (.ret e)) := by
  simp only [mS] at h
  split at h
  · rename_i v pos
    by_cases iv : isVarE e = true
    · cases e <;> simp [isVarE] at iv
      rename_i i
      obtain ⟨y, p, rfl, hv⟩ := mE_var h
      refine ss_eq (ss_retV (S.pv hv)) ?_
      funext r
      simp only [evS, retE, retV]
      cases getS r i with
      | none => rfl
      | some s => simp only [evE]
    · refine ss_eq (ss_ret (okn m _ _ _ _ _ S.toSite h).1) ?_
      funext r
      simp only [evS]
      congr 1
      cases e <;> first | rfl | simp [isVarE] at iv
  · cases h
theorem st_ifs {c : Ex} {a b : List St} {x : Stmt} (S : SiteS M er F k C sc X) (ih : Oks M er F C sc X m n) (h : mS M er m sc (n + 1) (.ifs c a b) x = true) : SS C X x (evS F (.ifs c a b)) := by
  simp only [mS] at h
  split at h
  · simp only [Bool.and_eq_true, Bool.not_eq_true'] at h
    obtain ⟨⟨⟨h1, h2⟩, h3⟩, h4⟩ := h
    exact ss_eq (ss_if (tstX S h1 h2) (sss ih _ _ h3) (sss ih _ _ h4)) (by funext r; simp only [evS])
  · cases h
theorem st_for {t : Tg} {w : Sc} {b : List St} {x : Stmt} (S : SiteS M er F k C sc X) (ih : Oks M er F C sc X m n) (h : mS M er m sc (n + 1) (.for t w b) x = true) : SS C X x (evS F (.for t w b)) := by
  simp only [mS] at h
  split at h
  · simp only [Bool.and_eq_true] at h
    obtain ⟨⟨h1, h2⟩, h3⟩ := h
    obtain ⟨hi, hf⟩ := si_mW S.toSite (okn m) h1
    exact ss_eq (ss_for S.hp S.calm hi (S.pg h2) (sss ih _ _ h3) hf) (by funext r; simp only [evS, forEv]; try congr 1)
  · cases h
theorem st_whl {c : Ex} {b : List St} {x : Stmt} (S : SiteS M er F k C sc X) (ih : Oks M er F C sc X m n) (h : mS M er m sc (n + 1) (.whl c b) x = true) : SS C X x (evS F (.whl c b)) := by
  simp only [mS] at h
  split at h
  · simp only [Bool.and_eq_true, Bool.not_eq_true'] at h
    obtain ⟨⟨h1, h2⟩, h3⟩ := h
    exact ss_eq (ss_while F.fuel S.hp (tstX S h1 h2) (sss ih _ _ h3)) (by funext r; simp only [evS])
  · cases h
theorem st_for1 {i : Nat} {e : Ex} {b : List St} {x : Stmt} (S : SiteS M er F k C sc X) (ih : Oks M er F C sc X m n) (h : mS M er m sc (n + 1) (.for1 i e b) x = true) : SS C X x (evS F (.for1 i e b)) := by
  simp only [mS] at h
  split at h
  · rename_i y p1 it b' pos
    simp only [Bool.and_eq_true, decide_eq_true_eq] at h
    obtain ⟨⟨⟨⟨h1, h2⟩, h3⟩, h4⟩, h5⟩ := h
    exact ss_eq (ss_for1 S.hk S.hp S.calm S.nd' (S.ix h1) (S.lc h2) (.inl (S.fn y)) (okn m _ _ _ _ _ S.toSite h4).1 (sss ih _ _ h5) (fold_no h3 _)) (by funext r; simp only [evS, for1Ev]; try congr 1)
  · cases h
theorem st_raise {c : Nat} {x : Stmt} (S : SiteS M er F k C sc X) (h : mS M er m sc (n + 1) (.raise c) x = true) : SS C X x (evS F (.raise c)) := by
  simp only [mS] at h
  split at h
  · simp only [Bool.and_eq_true, decide_eq_true_eq] at h
    obtain ⟨⟨h1, h2⟩, h3⟩ := h
    exact ss_eq (ss_raise S.calm (S.er _ _ h1 h3 (S.gl h2) _ _ _ _ _)) (by funext r; simp only [evS])
  · cases h
theorem all2_get {α β : Type} {p : α → β → Bool} : ∀ {as : List α} {bs : List β} {i : Nat} {b : β}, all2 p as bs = true → bs[i]? = some b → ∃ a, as[i]? = some a ∧ p a b = true
  | [], bs, i, b, h, e => by rw [all2_nil h] at e; simp at e
  | a :: as, bs, i, b, h, e => by
    obtain ⟨b', bs', rfl, h1, h2⟩ := all2_cons h
    cases i with
    | zero => simp at e; subst e; exact ⟨a, rfl, h1⟩
    | succ i =>
      have := all2_get (i := i) h2 (by simpa using e)
      simpa using this
theorem isLam_of (hs : X.env.scope = sc) {j : Nat} {e : Ex} {x : Expr} (h : lamB M sc e x = true) (he : M.ol[j]? = some e) : IsLam X M.tl.G (lamOkM M sc) j x := by
  unfold lamB at h
  split at h
  · rename_i ar bd lsc p e1
    have e1 := asLam_eq e1
    subst e1
    simp only [Bool.and_eq_true, Bool.not_eq_true'] at h
    obtain ⟨⟨⟨h1, h2⟩, h3⟩, h4⟩ := h
    have := noArgs_eq h1
    subst this
    exact ⟨_, _, _, _, rfl, rfl, by rw [hs]; exact lamS_by h2, h3, h1, h2, e, he, h4⟩
  · cases h
theorem st_lams {i l : Nat} {x : Stmt} (S : SiteS M er F k C sc X) (h : mS M er m sc (n + 1) (.lams i l) x = true) : SS C X x (evS F (.lams i l)) := by
  simp only [mS] at h
  split at h
  · rename_i y p1 es p2 p3
    simp only [Bool.and_eq_true, decide_eq_true_eq] at h
    obtain ⟨⟨⟨⟨⟨h1, h2⟩, h3⟩, rfl⟩, h5⟩, h6⟩ := h
    obtain ⟨hr, cd, tb, nm, CS, a, g, pg, bg, sg, dV, kV, doc, pm, cdv, ct, oc, an, od, osl, Ng, LS, hC, _⟩ := S.rf h1
    have ev : evS F (.lams i es.length) = lamsR i es.length := by funext r; simp only [evS, lamsR]
    rw [ev, hC]
    refine ss_lams LS S.nd' (S.ix h2) (S.lc h3) (.inl (S.fn y)) (sw_no rfl _ _ _) (Nat.le_trans h5 (by decide)) fun j e he => ?_
    obtain ⟨e', q1, q2⟩ := all2_get h6 he
    rw [Nat.zero_add]
    refine isLam_of S.hs q2 ?_
    rw [List.getElem?_take] at q1
    split at q1
    · exact q1
    · cases q1
  · cases h
theorem st_lamsAdd {i l0 l : Nat} {x : Stmt} (S : SiteS M er F k C sc X) (h : mS M er m sc (n + 1) (.lamsAdd i l0 l) x = true) : SS C X x (evS F (.lamsAdd i l0 l)) := by
  simp only [mS] at h
  split at h
  · rename_i y p1 y' p4 es p2 p5 p3
    simp only [Bool.and_eq_true, decide_eq_true_eq] at h
    obtain ⟨⟨⟨⟨⟨⟨⟨h1, h2⟩, h3⟩, rfl⟩, h4⟩, rfl⟩, h5⟩, h6⟩ := h
    obtain ⟨hr, cd, tb, nm, CS, a, g, pg, bg, sg, dV, kV, doc, pm, cdv, ct, oc, an, od, osl, Ng, LS, hC, _⟩ := S.rf h1
    have ev : evS F (.lamsAdd i l0 es.length) = lamsAddR i l0 es.length := by funext r; simp only [evS, lamsAddR] <;> (cases getF r i <;> rfl)
    rw [ev, hC]
    refine ss_lamsAdd LS S.nd' (S.ix h2) (S.lc h3) (.inl (S.fn y')) (sw_no rfl _ _ _) (okN_ok h4).1 (okN_ok h4).2.1 (Nat.le_trans h5 (by decide)) fun j e he => ?_
    obtain ⟨e', q1, q2⟩ := all2_get h6 he
    refine isLam_of S.hs q2 ?_
    rw [List.getElem?_take] at q1
    split at q1
    · rw [List.getElem?_drop] at q1
      exact q1
    · cases q1
  · cases h
theorem oks (S : SiteS M er F k C sc X) : ∀ n, Oks M er F C sc X m n
  | 0 => fun s x h => by cases h
  | n + 1 => fun s x h => by
    have ih := oks S n
    cases s with
    | asg i e => exact st_asg S h
    | unp t e => exact st_unp S h
    | set i e1 e2 => exact st_set S h
    | aug o i e => exact st_aug S h
    | augs o i e1 e2 => exact st_augs S h
    | exp e => exact st_exp S h
    | ret e => exact st_ret S h
    | ret0 =>
      simp only [mS] at h
      split at h
      · exact ss_eq ss_retN (by funext r; simp only [evS])
      · cases h
    | ifs c a b => exact st_ifs S ih h
    | «for» t w b => exact st_for S ih h
    | whl c b => exact st_whl S ih h
    | for1 i e b => exact st_for1 S ih h
    | raise c => exact st_raise S h
    | lams i l => exact st_lams S h
    | lamsAdd i l0 l => exact st_lamsAdd S h
    | pass =>
      simp only [mS] at h
      split at h
      · exact ss_eq ss_pass (by funext r; simp only [evS])
      · exact ss_eq ss_doc (by funext r; simp only [evS])
      · cases h
    | brk =>
      simp only [mS] at h
      split at h
      · exact ss_eq ss_brk (by funext r; simp only [evS])
      · cases h
    | cont =>
      simp only [mS] at h
      split at h
      · exact ss_eq ss_cont (by funext r; simp only [evS])
      · cases h
    | _ => simp only [mS] at h; cases h
/-- a body that passes does what the evaluator says -/
theorem body_ok (S : SiteS M er F k C sc X) {ss : List St} {xs : List Stmt} (h : all2 (mS M er m sc n) ss xs = true) : SSs C X xs (evSs F ss) := sss (oks S n) ss xs h
end
end VS
end

section
set_option autoImplicit false
set_option linter.all false
/-! VM10: the defs of a program: what callN says, they do. -/
namespace VS
open PySem PySem.Spec PyProof.Rows L2 LamX

section
variable {P : Program} {w : World} {K : PySem.W.Frag} {mg : PySem.Str → Option Value} {base : Heap} {x qual : PySem.Str} {params : Arguments} {body : List Stmt} {scope : Scope} {f : Addr} {fd : FuncData} {N pn : List PySem.Str}
theorem fn_okC {k np ns : Nat} {ev : Rho → SR} (cv : Nat → Value) (T : Tbs) (F : FunD K x qual params body scope [] [] f fd) (S : FnScope N pn scope) (hpn : pn.length = np) (hN : N.length = ns) (hnp : np ≤ ns)
    (hb : ∀ (A : Around) (outer : List Env) (s : Shared) (H : Hp) (E : XK), Room k (Frame P w K mg base N qual scope f fd.code A outer s H E).A → ∃ C : RC, C.K = K ∧ C.cv = cv ∧ C.T = T ∧ SSs C (Frame P w K mg base N qual scope f fd.code A outer s H E) body ev) :
    FnOk P w K mg base (L2.CX P w) (k + 1) f fd pn (spC (RC.plain ⟨K, cv, T, fun _ _ _ _ => False, fun _ _ _ _ _ h _ => h.elim⟩) (runE np ns ev) np) := by
  obtain ⟨oc, od, dV, kV, doc, pm, an, cdv, ct, osl, rfl, lk, hcd, _, _⟩ := F.ex
  refine fn_of lk hcd S (fun vs H Q E q => q.1.trans hpn.symm) ?_
  rintro A outer s H vs Q E hr ⟨hv, Z, ps, rl, hp, h⟩
  obtain ⟨C, rfl, rfl, rfl, hs⟩ := hb A outer s H E hr
  exact ⟨_, hs _ frame_takes, body_done (C := C) rl hp hN hv hnp h⟩
end

/-- no lambdas in slots -/
def C0 (K : PySem.W.Frag) (cv : Nat → Value) (T : Tbs) : RC := ⟨K, cv, T, fun _ _ _ _ => False, fun _ _ _ _ _ h _ => h.elim⟩
section
variable (P : Program) (w : World) (K : PySem.W.Frag) (mg : PySem.Str → Option Value) (base : Heap) (cv : Nat → Value) (T : Tbs) (fs : Nat → Option (PySem.Str × Nat)) (told : PySem.Str) (cs z : List Nat) (er : List PySem.Str) (pr : Prog)
/-- what is asked of a def -/
structure DefOk (j : Nat) (y : PySem.Str) (np : Nat) (wh : Wh) (ol : List Ex) (qual : PySem.Str) (params : Arguments) (body : List Stmt) (scope : Scope) (f : Addr) (fd : FuncData) (N pn : List PySem.Str) (ns : Nat) (b : List St) : Prop where
  fun_ : FunD K y qual params body scope [] [] f fd
  sc : FnScope N pn scope
  hpn : pn.length = np
  hN : N.length = ns
  hnp : np ≤ ns
  nd : N.Nodup
  kd : scope.kind = .function
  mg_ : mg y = some (.ref f)
  kp : PySem.W.keepIn K (.ref f) = true
  bd : Binds K fd pn []
  df : pr.defs[j]? = some ⟨np, ns, b, ol⟩
  ok : all2 (mS ⟨N, fs, told, cs, z, wh, ol⟩ er 60 scope 60) b body = true
  td : wh.tl = true → ∀ (A : Around) (outer : List Env) (s : Shared) (H : Hp) (E : XK), ToldAt ⟨N, fs, told, cs, z, wh, ol⟩ (C0 K cv T) (Frame P w K mg base N qual scope f fd.code A outer s H E) wh.G
  ge : wh.ge = true → ∀ (A : Around) (outer : List Env) (s : Shared) (H : Hp) (E : XK), GTab (C0 K cv T) (Frame P w K mg base N qual scope f fd.code A outer s H E) wh.G
  rf : wh.rf = true → ∃ (cd tb : Addr) (nm : PySem.Str) (CS : Addr) (a : PySem.Str) (g : Addr) (pg : Arguments) (bg : List Stmt) (sg : Scope) (dV kV doc pm cdv ct oc : Value) (an od : Option Addr) (osl : Array (Option Value)) (Ng : List PySem.Str), (∀ c ∈ cs, PySem.W.exmOne K (cv c) (.ref CS) = some true) ∧
    ∀ (A : Around) (outer : List Env) (s : Shared) (H : Hp) (E : XK), LSite (Frame P w K mg base N qual scope f fd.code A outer s H E) T cd tb nm wh.G ∧ ToldD (Frame P w K mg base N qual scope f fd.code A outer s H E) told nm CS z a g pg bg sg dV kV doc pm cdv ct oc an od osl Ng
variable {P w K mg base cv T fs told cs z er pr}
theorem calls_ok {R : Nat → Addr → FuncData → List PySem.Str → Prop} (fuel : Nat) (hB : ∀ y ∈ blts, mg y = none)
    (hE : ∀ (N : List PySem.Str) (qual : PySem.Str) (scope : Scope) (f : Addr) (cdv : Value) (A : Around) (outer : List Env) (s : Shared) (H : Hp) (E : XK) (c : Nat) (y : PySem.Str), er[c]? = some y → okN y = true → Gl (Frame P w K mg base N qual scope f cdv A outer s H E) y →
      ∀ (t : PySem.Str) (j : Nat) (p p2 pos : Pos), PMk (Frame P w K mg base N qual scope f cdv A outer s H E) (.Call (.Name y p) [.Constant (.str t) j p2] [] pos) (fun _ H Q => Q (cv c) none H))
    (hD : ∀ (j : Nat) (y : PySem.Str) (np : Nat), fs j = some (y, np) → ∃ wh ol qual params body scope f fd N pn ns b, DefOk P w K mg base cv T fs told cs z er pr j y np wh ol qual params body scope f fd N pn ns b ∧ R j f fd pn) :
    ∀ (n j : Nat) (y : PySem.Str) (np : Nat), fs j = some (y, np) → ∃ (f : Addr) (fd : FuncData) (pn : List PySem.Str), FnOk P w K mg base (L2.CX P w) (3 * n + 1) f fd pn (spC (C0 K cv T).plain (callN pr fuel n j) np) ∧ mg y = some (.ref f) ∧ PySem.W.keepIn K (.ref f) = true ∧ Binds K fd pn [] ∧ R j f fd pn := by
  intro n
  induction n with
  | zero =>
    intro j y np hj
    obtain ⟨wh, ol, qual, params, body, scope, f, fd, N, pn, ns, b, D, hR⟩ := hD j y np hj
    refine ⟨f, fd, pn, ?_, D.mg_, D.kp, D.bd, hR⟩
    have e : callN pr fuel 0 j = runE np ns (fun _ => .no) := by
      funext ps
      simp [callN, runE]
    rw [e]
    refine fn_okC cv T D.fun_ D.sc D.hpn D.hN D.hnp fun A outer s H E hr => ⟨C0 K cv T, rfl, rfl, rfl, fun W tk => ?_⟩
    refine ⟨fun pins s σ H R I q => ?_⟩
    obtain ⟨_, _, _, h⟩ := q
    exact h.elim
  | succ n ih =>
    intro j y np hj
    obtain ⟨wh, ol, qual, params, body, scope, f, fd, N, pn, ns, b, D, hR⟩ := hD j y np hj
    refine ⟨f, fd, pn, ?_, D.mg_, D.kp, D.bd, hR⟩
    have e : callN pr fuel (n + 1) j = runE np ns (evSs ⟨callN pr fuel n, fun g => pr.glo[g]?, fuel, lamsOf ⟨callN pr fuel n, fun g => pr.glo[g]?, fuel, fun _ _ => .no⟩ ol⟩ b) := by
      funext ps
      simp only [callN, D.df]
      rfl
    rw [e, show 3 * (n + 1) + 1 = 3 * n + 3 + 1 by omega]
    refine fn_okC cv T D.fun_ D.sc D.hpn D.hN D.hnp fun A outer s H E hr => ?_
    -- a context with slots of lambdas, or without
    have main : ∀ C : RC, C.K = K → C.cv = cv → C.T = T → C.plain = (C0 K cv T).plain → (wh.rf = true → ∀ (hF : ∀ (lsc : Scope) (X' : Cx) (a : Ex) (x : Expr), Site ⟨N, fs, told, cs, z, wh, ol⟩ ⟨callN pr fuel n, fun g => pr.glo[g]?, fuel, fun _ _ => .no⟩ (3 * n + 1) C lsc .no X' → mE ⟨N, fs, told, cs, z, wh, ol⟩ 60 lsc .no a x = true → SE C X' x (evE ⟨callN pr fuel n, fun g => pr.glo[g]?, fuel, fun _ _ => .no⟩ a))
          (S0 : Site ⟨N, fs, told, cs, z, wh, ol⟩ ⟨callN pr fuel n, fun g => pr.glo[g]?, fuel, fun _ _ => .no⟩ (3 * n + 1) C scope .no (Frame P w K mg base N qual scope f fd.code A outer s H E)),
          RfAt ⟨N, fs, told, cs, z, wh, ol⟩ ⟨callN pr fuel n, fun g => pr.glo[g]?, fuel, lamsOf ⟨callN pr fuel n, fun g => pr.glo[g]?, fuel, fun _ _ => .no⟩ ol⟩ (3 * n + 1) C scope (Frame P w K mg base N qual scope f fd.code A outer s H E) wh.G) →
        SSs C (Frame P w K mg base N qual scope f fd.code A outer s H E) body (evSs ⟨callN pr fuel n, fun g => pr.glo[g]?, fuel, lamsOf ⟨callN pr fuel n, fun g => pr.glo[g]?, fuel, fun _ _ => .no⟩ ol⟩ b) := by
      intro C hK hcv hT hpl hrf
      subst hK
      have fsC : ∀ (j : Nat) (y : PySem.Str) (np : Nat), fs j = some (y, np) → ∃ (f : Addr) (fd : FuncData) (pn : List PySem.Str), FnOk P w C.K mg base (L2.CX P w) (3 * n + 1) f fd pn (spC C.plain (callN pr fuel n j) np) ∧ mg y = some (.ref f) ∧ PySem.W.keepIn C.K (.ref f) = true ∧ Binds C.K fd pn [] := by
        rw [hpl]
        exact fun j y np h => let ⟨f, fd, pn, a, b, c, d, _⟩ := ih j y np h; ⟨f, fd, pn, a, b, c, d⟩
      have S0 : Site ⟨N, fs, told, cs, z, wh, ol⟩ ⟨callN pr fuel n, fun g => pr.glo[g]?, fuel, fun _ _ => .no⟩ (3 * n + 1) C scope .no (Frame P w C.K mg base N qual scope f fd.code A outer s H E) :=
        ⟨rfl, D.nd, rfl, rfl, rfl, hr.mono (by omega), hB, fsC, fun h => (by cases h), fun h => (by cases h), fun h => (by cases h)⟩
      have S1 : Site ⟨N, fs, told, cs, z, wh, ol⟩ ⟨callN pr fuel n, fun g => pr.glo[g]?, fuel, lamsOf ⟨callN pr fuel n, fun g => pr.glo[g]?, fuel, fun _ _ => .no⟩ ol⟩ (3 * n + 1) C scope wh (Frame P w C.K mg base N qual scope f fd.code A outer s H E) := by
        refine ⟨rfl, D.nd, rfl, rfl, rfl, hr.mono (by omega), hB, fsC, fun h => ⟨hr, ?_⟩, fun h => ⟨hr.mono (by omega), ?_⟩, fun h => ⟨hr, ?_⟩⟩
        · have q := D.td h A outer s H E
          unfold ToldAt at q ⊢
          rw [hT, hcv]
          exact q
        · have q := D.ge h A outer s H E
          unfold GTab at q ⊢
          rw [hT]
          exact q
        · exact hrf h (fun lsc X' a x S h => (okn 60 _ _ _ _ _ S h).1) S0
      refine body_ok (C := C) (M := ⟨N, fs, told, cs, z, wh, ol⟩) (sc := scope) (m := 60) (n := 60) (er := er) ⟨S1, frame_passes, D.kd, fun _ => rfl, ?_⟩ D.ok
      rw [hcv]
      exact hE N qual scope f fd.code A outer s H E
    by_cases hw : wh.rf = true
    · obtain ⟨cd, tb, nm, CS, a, g, pg, bg, sg, dV, kV, doc, pm, cdv, ct, oc, an, od, osl, Ng, hcs, hq⟩ := D.rf hw
      obtain ⟨LS, TD⟩ := hq A outer s H E
      refine ⟨CL K cv T nm (Frame P w K mg base N qual scope f fd.code A outer s H E).env.cells (lamOkM ⟨N, fs, told, cs, z, wh, ol⟩ scope), rfl, rfl, rfl, main _ rfl rfl rfl rfl fun _ hF S0 => ?_⟩
      refine ⟨cd, tb, nm, CS, a, g, pg, bg, sg, dV, kV, doc, pm, cdv, ct, oc, an, od, osl, Ng, LS, rfl, TD, hcs, fun i pr' bd lsc hl A' outer' s' H' E' f' c' r => ?_⟩
      obtain ⟨_, _, e', he, hm⟩ := hl
      have := hF lsc _ e' bd (S0.lam (lsc := lsc) (f := f') (c' := c') (E := E') (H := H') (outer := outer') r) hm
      have ee : lamsOf ⟨callN pr fuel n, fun g => pr.glo[g]?, fuel, fun _ _ => .no⟩ ol i = evE ⟨callN pr fuel n, fun g => pr.glo[g]?, fuel, fun _ _ => .no⟩ e' := by
        funext q
        unfold lamsOf
        rw [he]
      exact se_eq this ee
    · exact ⟨C0 K cv T, rfl, rfl, rfl, main _ rfl rfl rfl rfl fun h => absurd h hw⟩
end
end VS
end

section
set_option autoImplicit false
set_option linter.all false
/-! VH1: from what the head tells to the promise of every def. -/
namespace VS
open PySem PySem.Spec PyProof.Rows L2 LamX

/-- a def as the program has it: place in the top's body, name, slots' names, what it holds, the tree -/
structure DD where
  i : Nat
  y : PySem.Str
  N : List PySem.Str
  wh : Wh
  d : Def
/-- a program's papers -/
structure Pg where
  /-- told's def is none -/
  ds : List (Option DD)
  er : List PySem.Str
  told : PySem.Str
  ti : Nat
  tN : List PySem.Str
  ta : PySem.Str
  te : PySem.Str
  cs : List Nat
  z : List Nat
def Pg.fs (p : Pg) (j : Nat) : Option (PySem.Str × Nat) := (p.ds[j]?).bind fun q => q.map fun q => (q.y, q.d.np)
def Pg.all (p : Pg) : List DD := p.ds.filterMap id
def defX (body : List Stmt) (i : Nat) (y : PySem.Str) : He.DefD := ⟨(y, none), y, y, defArgs (body.getD i (.Pass ⟨0, 0, 0, 0⟩)), defBody (body.getD i (.Pass ⟨0, 0, 0, 0⟩)), defScope (body.getD i (.Pass ⟨0, 0, 0, 0⟩)), [], []⟩
def DD.flag (q : DD) : Bool := q.wh.tl || q.wh.ge || q.wh.rf
def Pg.fn (p : Pg) (body : List Stmt) (tl : Bool) : List He.DefD := p.all.map (fun q => defX body q.i q.y) ++ if tl then [defX body p.ti p.told] else []
def Pg.tf (p : Pg) : List DD := p.all.filter DD.flag
def Pg.tb (p : Pg) : List He.Defn := p.tf.map fun q => (q.y, none)
def Pg.fa (p : Pg) (tl : Bool) : List He.Fa := p.all.map (fun q => He.Fa.glo q.y) ++ blts.map He.Fa.free ++ (p.er.filter okN).map He.Fa.glo ++ (p.er.filter okN).map He.Fa.exc ++ if tl then He.Fa.glo p.told :: He.Fa.glo p.te :: p.cs.map fun c => He.Fa.exm (p.er.getD c "") p.te true else []
/-- the tables stand apart, no list among the constants -/
def nolst (K : PySem.W.Frag) : Bool := K.all fun q => match q.2.cls with
  | .type c => !decide (c = "list")
  | _ => true
def Pg.ex (p : Pg) (K : PySem.W.Frag) : Bool := nolst K && decide ((p.tb.map fun q => (He.cT K q).2).Nodup)
/-- the scope is a plain def's -/
def scB (N pn : List PySem.Str) (sc : Scope) : Bool := decide (sc.kind = .function) && !sc.isCoroutine && !sc.isGenerator && decide N.Nodup && (pn.all fun x => locB sc x) && sc.names.all fun y => !decide (y.2 = .free)
theorem scB_ok {N : List PySem.Str} {n : Nat} {sc : Scope} (hn : n ≤ N.length) (h : scB N (N.take n) sc = true) : FnScope N (N.take n) sc := by
  simp only [scB, Bool.and_eq_true, decide_eq_true_eq, Bool.not_eq_true'] at h
  obtain ⟨⟨⟨⟨⟨h1, h2⟩, h3⟩, h4⟩, h5⟩, h6⟩ := h
  refine ⟨h1, h2, h3, h4, ?_, fun x hx => locB_ok (List.all_eq_true.mp h5 x hx), fun y hy => ?_⟩
  · rw [List.length_take, Nat.min_eq_left hn]
  · have := List.all_eq_true.mp h6 y hy
    simpa using this
def ckDD (body : List Stmt) (p : Pg) (q : DD) : Bool :=
  scB q.N (q.N.take q.d.np) (defScope (body.getD q.i (.Pass ⟨0, 0, 0, 0⟩))) && decide (q.N.length = q.d.ns) && decide (q.d.np ≤ q.d.ns) &&
  all2 (mS ⟨q.N, p.fs, p.told, p.cs, p.z, q.wh, q.d.lams⟩ p.er 60 (defScope (body.getD q.i (.Pass ⟨0, 0, 0, 0⟩))) 60) q.d.body (defBody (body.getD q.i (.Pass ⟨0, 0, 0, 0⟩)))
/-- values are bound by places -/
def BindA (y : PySem.Str) (pn : List PySem.Str) (st : Stmt) : Prop := ∀ (kV doc pm : Value) (an : Option Addr) (cdv ct : Value) (us : List Value), us.length = pn.length → bindArgs (PySem.W.fnOf y y (defArgs st) (defBody st) (defScope st) .none kV doc pm an cdv ct) ⟨us, []⟩ = pure (pn.zip us)
def BindsAll (body : List Stmt) : List (Option DD) → Prop
  | [] => True
  | none :: r => BindsAll body r
  | some q :: r => BindA q.y (q.N.take q.d.np) (body.getD q.i (.Pass ⟨0, 0, 0, 0⟩)) ∧ BindsAll body r
theorem BindsAll.at_ {body : List Stmt} : ∀ {l : List (Option DD)} {j : Nat} {q : DD}, BindsAll body l → l[j]? = some (some q) → BindA q.y (q.N.take q.d.np) (body.getD q.i (.Pass ⟨0, 0, 0, 0⟩))
  | [], _, _, _, e => by simp at e
  | none :: r, 0, _, _, e => by simp at e
  | none :: r, j + 1, q, h, e => BindsAll.at_ (l := r) (j := j) h (by simpa using e)
  | some q' :: r, 0, q, h, e => by
    simp at e; subst e; exact h.1
  | some q' :: r, j + 1, q, h, e => BindsAll.at_ (l := r) (j := j) h.2 (by simpa using e)
/-- told's text -/
def ToldB (body : List Stmt) (p : Pg) : Prop := ∃ (j : Nat) (p1 p2 p3 p4 p5 p6 p7 p8 : Pos), defBody (body.getD p.ti (.Pass ⟨0, 0, 0, 0⟩)) = [.Try [.Return (some (.Call (.Name p.ta p1) [] [] p2)) p3] [.ExceptHandler (some (.Name p.te p4)) none [.Return (some (.Constant (.str (tx p.z)) j p5)) p6] p7] [] [] p8]
structure ToldOk (body : List Stmt) (p : Pg) : Prop where
  tb : ToldB body p
  sc : scB p.tN (p.tN.take 1) (defScope (body.getD p.ti (.Pass ⟨0, 0, 0, 0⟩))) = true
  hN : p.tN = [p.ta]
  ge : (defScope (body.getD p.ti (.Pass ⟨0, 0, 0, 0⟩))).names.lookup p.te = some .globalImplicit
  de : (p.te == ("__debug__" : PySem.Str)) = false
  ok1 : okN p.told = true
  ok2 : okN p.ta = true
  bd : BindA p.told [p.ta] (body.getD p.ti (.Pass ⟨0, 0, 0, 0⟩))
/-- the tables by names -/
def Pg.T (p : Pg) (K : PySem.W.Frag) : Tbs := p.tf.map fun q => ((He.cT K (q.y, none)).2, q.y ++ ".<locals>." ++ "<lambda>", q.wh.G)
def Pg.cv (p : Pg) (K : PySem.W.Frag) (c : Nat) : Value := .ref (He.ga K (p.er.getD c ""))
end VS
end

section
set_option autoImplicit false
set_option linter.all false
/-! VH2: every def keeps its promise. -/
namespace VS
open PySem PySem.Spec PyProof.Rows L2 LamX

section
variable {P : Program} {w : World} {K : PySem.W.Frag} {mg : PySem.Str → Option Value} {base h0 : Heap} {body : List Stmt} {p : Pg} {tl : Bool} {pr : Prog}
theorem Pg.mem_all {q : DD} {j : Nat} (h : p.ds[j]? = some (some q)) : q ∈ p.all := List.mem_filterMap.mpr ⟨some q, List.mem_of_getElem? h, rfl⟩
theorem mem_er {y : PySem.Str} {c : Nat} (h : p.er[c]? = some y) (o : okN y = true) : y ∈ p.er.filter okN := List.mem_filter.mpr ⟨List.mem_of_getElem? h, o⟩
theorem okN_dbg {x : PySem.Str} (h : okN x = true) : (x == ("__debug__" : PySem.Str)) = false := (okN_ok h).1
/-- the table of a def's code -/
theorem tab_of {q : DD} {f : Addr} {fd : FuncData} {pa : Arguments} {bo : List Stmt} {sc : Scope} (F : FunD K q.y q.y pa bo sc [] [] f fd) (hf : He.fAd K (q.y, none) = f) : fd.code = .ref (He.cT K (q.y, none)).1 := by
  obtain ⟨oc, od, dV, kV, doc, pm, an, cdv, ct, osl, rfl, lk, hcd, _, _⟩ := F.ex
  obtain ⟨c, rfl⟩ := He.codeIn_ref hcd
  have := He.codeOf_eq (K := K) (p := (q.y, none)) (c := c) (by rw [hf]; exact lk) rfl
  show Value.ref c = .ref (He.codeOf K (q.y, none))
  rw [this]
theorem map_inj {α β : Type} {f : α → β} : ∀ {l : List α} {a b : α}, (l.map f).Nodup → a ∈ l → b ∈ l → f a = f b → a = b
  | [], _, _, _, h, _, _ => by cases h
  | x :: l, a, b, n, ha, hb, e => by
    simp only [List.map_cons, List.nodup_cons] at n
    rcases List.mem_cons.1 ha with h1 | h1
    · rcases List.mem_cons.1 hb with h2 | h2
      · exact h1.trans h2.symm
      · exact absurd (List.mem_map.mpr ⟨b, h2, by rw [← e, h1]⟩) n.1
    · rcases List.mem_cons.1 hb with h2 | h2
      · exact absurd (List.mem_map.mpr ⟨a, h1, by rw [e, h2]⟩) n.1
      · exact map_inj n.2 h1 h2 e
theorem tbs_one (c : p.ex K = true) {q : DD} (hq : q ∈ p.tf) : ∀ r ∈ p.T K, r.1 = (He.cT K (q.y, none)).2 → r.2 = (q.y ++ ".<locals>." ++ "<lambda>", q.wh.G) := by
  intro r hr e
  unfold Pg.ex at c
  simp only [Bool.and_eq_true, decide_eq_true_eq] at c
  have nd := c.2
  unfold Pg.tb at nd
  rw [List.map_map] at nd
  obtain ⟨q2, h2, rfl⟩ := List.mem_map.mp hr
  have : q2 = q := map_inj nd h2 hq e
  subst this
  rfl

theorem told_at (c : He.SaysX (p.fa true) (p.fn body true) [] p.tb p.ex w h0 K) (KX : K.In base) (G : base.Ns mainGlobals mg) (t : ToldOk body p) :
    ∃ (g : Addr) (dV kV doc pm cdv ct oc : Value) (an od : Option Addr) (osl : Array (Option Value)), mg p.told = some (.ref g) ∧ PySem.W.keepIn K (.ref g) = true ∧
      K.lookup g = some ⟨oc, od, .func (PySem.W.fnOf p.told p.told (defArgs (body.getD p.ti (.Pass ⟨0, 0, 0, 0⟩))) (defBody (body.getD p.ti (.Pass ⟨0, 0, 0, 0⟩))) (defScope (body.getD p.ti (.Pass ⟨0, 0, 0, 0⟩))) dV kV doc pm an cdv ct), osl⟩ ∧
      PySem.W.codeIn K cdv p.told = true ∧ L2.Binds K (PySem.W.fnOf p.told p.told (defArgs (body.getD p.ti (.Pass ⟨0, 0, 0, 0⟩))) (defBody (body.getD p.ti (.Pass ⟨0, 0, 0, 0⟩))) (defScope (body.getD p.ti (.Pass ⟨0, 0, 0, 0⟩))) dV kV doc pm an cdv ct) [p.ta] [] ∧
      FnScope p.tN [p.ta] (defScope (body.getD p.ti (.Pass ⟨0, 0, 0, 0⟩))) ∧ p.tN[0]? = some p.ta ∧ Vis (defScope (body.getD p.ti (.Pass ⟨0, 0, 0, 0⟩))) p.ta ∧
      (∀ (X : Cx) (q : PySem.Str), X.mg = mg → X.K = K → GivesTo X p.tN p.told (defScope (body.getD p.ti (.Pass ⟨0, 0, 0, 0⟩))) g cdv (defBody (body.getD p.ti (.Pass ⟨0, 0, 0, 0⟩))) p.ta q (TTold X.K (He.ga K p.te) (tx p.z))) ∧
      ∀ c ∈ p.cs, PySem.W.exmOne K (p.cv K c) (.ref (He.ga K p.te)) = some true := by
  have hfa : ∀ f ∈ p.fa true, f.ok K = true := fun f hf => He.SaysD.facts (He.SaysT.d c.t) hf
  have ft : ∀ f, f ∈ (He.Fa.glo p.told :: He.Fa.glo p.te :: p.cs.map fun c => He.Fa.exm (p.er.getD c "") p.te true) → f.ok K = true := fun f hf => hfa f (List.mem_append_right _ hf)
  obtain ⟨fd, F⟩ := He.SaysD.defs (He.SaysT.d c.t) (d := defX body p.ti p.told) (List.mem_append_right _ (List.mem_singleton.mpr rfl))
  have B := FunD.bindsN (ps := [p.ta]) F t.bd
  have kp := F.kp
  obtain ⟨oc, od, dV, kV, doc, pm, an, cdv, ct, osl, rfl, lk, hcd, hD, _⟩ := F.ex
  have mgt := He.glo_ok KX G (ft _ (List.mem_cons_self ..))
  have mge := He.glo_ok KX G (ft _ (List.mem_cons_of_mem _ (List.mem_cons_self ..)))
  have S := scB_ok (by rw [t.hN]; simp) t.sc
  have e1 : p.tN.take 1 = [p.ta] := by rw [t.hN]; rfl
  rw [e1] at S
  refine ⟨_, dV, kV, doc, pm, cdv, ct, oc, an, od, osl, mgt, kp, lk, hcd, B, S, by rw [t.hN]; rfl, ?_, fun X q e1 e2 => ?_, fun c' hc => ?_⟩
  · rcases S.par p.ta (by simp) with h | h
    · exact .inl h
    · exact .inr (.inl h)
  · obtain ⟨j, p1, p2, p3, p4, p5, p6, p7, p8, hb⟩ := t.tb
    rw [hb]
    refine told_gives t.ge (by rw [e1]; exact mge) t.de fun f => ?_
    rw [t.hN]
    rfl
  · exact He.exm_ok (ft _ (List.mem_cons_of_mem _ (List.mem_cons_of_mem _ (List.mem_map.mpr ⟨c', hc, rfl⟩))))
end
end VS
end

section
set_option autoImplicit false
set_option linter.all false
/-! VH3: .. joined. -/
namespace VS
open PySem PySem.Spec PyProof.Rows L2 LamX

section
variable {P : Program} {w : World} {K : PySem.W.Frag} {mg : PySem.Str → Option Value} {base h0 : Heap} {body : List Stmt} {p : Pg} {tl : Bool} {pr : Prog}
/-- what the program's text has to pass -/
structure PgOk (body : List Stmt) (p : Pg) (tl : Bool) (pr : Prog) : Prop where
  df : ∀ (j : Nat) (q : DD), p.ds[j]? = some (some q) → pr.defs[j]? = some q.d
  ck : (p.all.all (ckDD body p)) = true
  bd : BindsAll body p.ds
  td : tl = true → ToldOk body p
  fl : (p.all.all fun q => tl || (!q.wh.tl && !q.wh.rf)) = true
theorem DefOk.of (O : PgOk body p tl pr) (c : He.SaysX (p.fa tl) (p.fn body tl) [] p.tb p.ex w h0 K) (KX : K.In base) (G : base.Ns mainGlobals mg) (TB : ∀ q ∈ p.tb, TabB base mg (He.cT K q).1 (He.cT K q).2) {j : Nat} {q : DD} {fd : FuncData} (hq : p.ds[j]? = some (some q)) (F : FunD K (defX body q.i q.y).name (defX body q.i q.y).qual (defX body q.i q.y).params (defX body q.i q.y).body (defX body q.i q.y).scope ((defX body q.i q.y).dvs K) ((defX body q.i q.y).kws K) (He.fAd K (defX body q.i q.y).at_) fd) :
    DefOk P w K mg base (p.cv K) (p.T K) p.fs p.told p.cs p.z p.er pr j q.y q.d.np q.wh q.d.lams q.y (defX body q.i q.y).params (defX body q.i q.y).body (defX body q.i q.y).scope (He.fAd K (defX body q.i q.y).at_) fd q.N (q.N.take q.d.np) q.d.ns q.d.body := by
  have hm : q ∈ p.all := Pg.mem_all hq
  have hfa : ∀ f ∈ p.fa tl, f.ok K = true := fun f hf => He.SaysD.facts (He.SaysT.d c.t) hf
  have ck := List.all_eq_true.mp O.ck q hm
  simp only [ckDD, Bool.and_eq_true, decide_eq_true_eq] at ck
  obtain ⟨⟨⟨c1, c2⟩, c3⟩, c4⟩ := ck
  have S := scB_ok (by omega) c1
  have cdE := tab_of (q := q) F rfl
  have tbm : q.flag = true → q ∈ p.tf := fun h => List.mem_filter.mpr ⟨hm, h⟩
  have tbm2 : q.flag = true → (q.y, none) ∈ p.tb := fun h => List.mem_map.mpr ⟨q, tbm h, rfl⟩
  have tbT : q.flag = true → ((He.cT K (q.y, none)).2, q.y ++ ".<locals>." ++ "<lambda>", q.wh.G) ∈ p.T K := fun h => List.mem_map.mpr ⟨q, tbm h, rfl⟩
  have fl := List.all_eq_true.mp O.fl q hm
  refine ⟨F, S, by rw [List.length_take]; omega, c2, c3, S.nd, S.kind, ?_, F.kp, F.bindsN (O.bd.at_ hq), O.df j q hq, c4, fun h => ?_, fun h => ?_, fun h => ?_⟩
  · exact He.glo_ok KX G (hfa _ (List.mem_append_left _ (List.mem_append_left _ (List.mem_append_left _ (List.mem_append_left _ (List.mem_map.mpr ⟨q, hm, rfl⟩))))))
  · intro A outer s H E
    have ht : tl = true := by
      cases tl with
      | true => rfl
      | false => simp [h] at fl
    subst ht
    have hfl : q.flag = true := by simp [DD.flag, h]
    obtain ⟨g, dV, kV, doc, pm, cdv, ct, oc, an, od, osl, a1, a2, a3, a4, a5, a6, a7, a8, a9, a10⟩ := told_at c KX G (O.td rfl)
    exact ⟨p.ta, g, (He.cT K (q.y, none)).1, (He.cT K (q.y, none)).2, He.ga K p.te, _, _, _, dV, kV, doc, pm, cdv, ct, oc, an, od, osl, p.tN, a1, a2, a3, a4, a5, a6, a7, a8, a9 _ _ rfl rfl, TB _ (tbm2 hfl), cdE, tbT hfl, tbs_one c.more (tbm hfl), (O.td rfl).ok1, (O.td rfl).ok2, a10⟩
  · intro A outer s H E
    have hfl : q.flag = true := by simp [DD.flag, h]
    exact ⟨(He.cT K (q.y, none)).1, (He.cT K (q.y, none)).2, _, TB _ (tbm2 hfl), cdE, tbT hfl, tbs_one c.more (tbm hfl)⟩
  · have ht : tl = true := by
      cases tl with
      | true => rfl
      | false => simp [h] at fl
    subst ht
    have hfl : q.flag = true := by simp [DD.flag, h]
    obtain ⟨g, dV, kV, doc, pm, cdv, ct, oc, an, od, osl, a1, a2, a3, a4, a5, a6, a7, a8, a9, a10⟩ := told_at c KX G (O.td rfl)
    refine ⟨(He.cT K (q.y, none)).1, (He.cT K (q.y, none)).2, q.y ++ ".<locals>." ++ "<lambda>", He.ga K p.te, p.ta, g, _, _, _, dV, kV, doc, pm, cdv, ct, oc, an, od, osl, p.tN, a10, fun A outer s H E => ⟨⟨rfl, TB _ (tbm2 hfl), cdE, tbT hfl, tbs_one c.more (tbm hfl)⟩, ⟨a1, a2, a3, a4, a5, a6, a7, a8, a9 _ _ rfl rfl, rfl, okN_dbg (O.td rfl).ok1, okN_dbg (O.td rfl).ok2, (okN_ok (O.td rfl).ok2).2.1⟩⟩⟩
/-- the def's very object -/
def PgR (p : Pg) (body : List Stmt) (K : PySem.W.Frag) (j : Nat) (f : Addr) (fd : FuncData) (pn : List PySem.Str) : Prop := ∃ q : DD, p.ds[j]? = some (some q) ∧ FunD K (defX body q.i q.y).name (defX body q.i q.y).qual (defX body q.i q.y).params (defX body q.i q.y).body (defX body q.i q.y).scope ((defX body q.i q.y).dvs K) ((defX body q.i q.y).kws K) f fd ∧ f = He.fAd K (defX body q.i q.y).at_ ∧ pn = q.N.take q.d.np
theorem pg_calls (O : PgOk body p tl pr) (c : He.SaysX (p.fa tl) (p.fn body tl) [] p.tb p.ex w h0 K) (KX : K.In base) (G : base.Ns mainGlobals mg) (TB : ∀ q ∈ p.tb, TabB base mg (He.cT K q).1 (He.cT K q).2) (fuel : Nat) :
    ∀ (n j : Nat) (y : PySem.Str) (np : Nat), p.fs j = some (y, np) → ∃ (f : Addr) (fd : FuncData) (pn : List PySem.Str), FnOk P w K mg base (L2.CX P w) (3 * n + 1) f fd pn (spC (C0 K (p.cv K) (p.T K)).plain (callN pr fuel n j) np) ∧ mg y = some (.ref f) ∧ PySem.W.keepIn K (.ref f) = true ∧ Binds K fd pn [] ∧ PgR p body K j f fd pn := by
  have hfa : ∀ f ∈ p.fa tl, f.ok K = true := fun f hf => He.SaysD.facts (He.SaysT.d c.t) hf
  refine calls_ok (R := PgR p body K) fuel (er := p.er) (told := p.told) (cs := p.cs) (z := p.z) (fun y hy => ?_) (fun N qual scope f cdv A outer s H E c' y hc ho hg t j p0 p2 pos => ?_) (fun j y np hj => ?_)
  · exact He.free_ok KX G (hfa _ (List.mem_append_left _ (List.mem_append_left _ (List.mem_append_left _ (List.mem_append_right _ (List.mem_map.mpr ⟨y, hy, rfl⟩))))))
  · have m1 : (He.Fa.glo y).ok K = true := hfa _ (List.mem_append_left _ (List.mem_append_left _ (List.mem_append_right _ (List.mem_map.mpr ⟨y, mem_er hc ho, rfl⟩))))
    have m2 : (He.Fa.exc y).ok K = true := hfa _ (List.mem_append_left _ (List.mem_append_right _ (List.mem_map.mpr ⟨y, mem_er hc ho, rfl⟩)))
    obtain ⟨q1, q2, q3, q4⟩ := He.exc_ok m2
    have e : p.cv K c' = .ref (He.ga K y) := by
      unfold Pg.cv
      rw [List.getD_eq_getElem?_getD, hc]
      rfl
    rw [e]
    exact pmk_own PySem.F.excBase_ValueError q1 (He.glo_ok KX G m1) q2 (raises_own q3 q4) hg (okN_dbg ho)
  · unfold Pg.fs at hj
    cases e : p.ds[j]? with
    | none => rw [e] at hj; cases hj
    | some o =>
      rw [e] at hj
      cases o with
      | none => cases hj
      | some q =>
        simp at hj
        obtain ⟨rfl, rfl⟩ := hj
        obtain ⟨fd, F⟩ := He.SaysD.defs (He.SaysT.d c.t) (d := defX body q.i q.y) (List.mem_append_left _ (List.mem_map.mpr ⟨q, Pg.mem_all e, rfl⟩))
        exact ⟨q.wh, q.d.lams, _, _, _, _, _, fd, _, _, _, _, DefOk.of (P := P) O c KX G TB e F, q, e, F, rfl, rfl⟩
end
end VS
end

section
set_option autoImplicit false
set_option linter.all false
/-! VH4: the law's promise at the head. -/
namespace VS
open PySem PySem.Spec PyProof.Rows L2 LamX

theorem nolst_ok {K : PySem.W.Frag} (h : nolst K = true) {a : Addr} {o : Obj} (e : K.lookup a = some o) : o.cls ≠ .type "list" := by
  intro z
  have := List.all_eq_true.mp h _ (He.lookup_mem e)
  simp only [z] at this
  simp at this
theorem rpl_ints {K : PySem.W.Frag} {P : Addr → Prop} {H : Hp} : ∀ ns : List Int, RpL K P H (ns.map D.int) (ns.map V.int)
  | [] => by simp [RpL]
  | n :: ns => by
    simp only [List.map_cons, RpL]
    exact ⟨_, _, rfl, by simp [Rp], rpl_ints ns⟩
/-- the script, as the law's parameter -/
def scriptS (ns : List Int) : Rho := [some ⟨.val, true, .lst (ns.map D.int)⟩]
theorem slot1 {s0 : Slot} {i : Nat} {s : Slot} (h : ([some s0] : Rho)[i]? = some (some s)) : i = 0 ∧ s = s0 := by
  cases i with
  | zero =>
    have : some (some s0) = some (some s) := h
    exact ⟨rfl, by simpa using this.symm⟩
  | succ i => simp at h
section
variable {K : PySem.W.Frag} {cv : Nat → Value} {T : Tbs} {H : Hp} {a : Addr} {ns : List Int}
theorem rel_script (hT : ∀ q ∈ T, H q.1 = some (.tbl #[])) (hS : Rd H a (.lst (ns.map V.int))) : Rel (C0 K cv T) (fun _ => False) (scriptS ns) ([V.ref a].map some) H where
  len := rfl
  tab := fun q hq => TabS.nil (hT q hq)
  zd := fun _ z => z.elim
  val := fun i s h f => by
    obtain ⟨rfl, rfl⟩ := slot1 h
    refine ⟨.ref a, rfl, ?_⟩
    simp only [Rp]
    refine ⟨a, ns.map V.int, rfl, ⟨fun z => z, fun ⟨j, t, h2, h3, _⟩ => ?_⟩, hS, rpl_ints ns⟩
    obtain ⟨rfl, rfl⟩ := slot1 h2
    rcases h3 with h3 | h3 <;> cases h3
  own := fun i s h f => by obtain ⟨rfl, rfl⟩ := slot1 h; cases f
  lent := fun i s h f => by obtain ⟨rfl, rfl⟩ := slot1 h; cases f
  fns := fun i s h f => by obtain ⟨rfl, rfl⟩ := slot1 h; cases f
  apart := fun i j s t b h1 h2 f _ _ _ => by
    obtain ⟨rfl, rfl⟩ := slot1 h1
    rcases f with f | f <;> cases f
theorem sp_script {call : Rho → CR} (hT : ∀ q ∈ T, H q.1 = some (.tbl #[])) (hS : Rd H a (.lst (ns.map V.int))) (h : ∃ o os, call (scriptS ns) = .ret o (.bl true) os) : spC (C0 K cv T).plain call 1 [.ref a] H (fun v _ => v = .bl true) fun _ _ _ => False := by
  obtain ⟨o, os, h⟩ := h
  refine ⟨rfl, fun _ => False, scriptS ns, rel_script hT hS, fun k s e => ?_, ?_⟩
  · obtain ⟨rfl, rfl⟩ := slot1 e
    rfl
  · rw [h]
    intro v H' q
    have r := q.res
    cases o with
    | val => simpa [RRes, Rp] using r.2
    | own => obtain ⟨_, _, _, _, t⟩ := r; exact t.elim
    | one => obtain ⟨_, _, _, _, e, _⟩ := r; cases e
end
theorem cx_none (P : Program) (w : World) (H : Hp) (s : Shared) (e : Value) (s' : Shared) (h : L2.CX P w [] H s (fun _ _ _ => False) e s') : False := by
  obtain ⟨_, _, _, _, _, _, _, _, _, _, _, _, h⟩ := h
  exact h
section
variable {l : PySem.W.OpenLaw} {w : World} {K : PySem.W.Frag} {mg : PySem.Str → Option Value} {h : Heap} {body : List Stmt} {p : Pg} {tl : Bool} {pr : Prog} {fa : Addr} {x : PySem.Str}
theorem law_at {n N li fuel : Nat} {q : DD} (O : PgOk body p tl pr) (hq : p.ds[li]? = some (some q)) (hnp : q.d.np = 1) (hN : q.N.take 1 = [x]) (pl : ∀ ns : List Int, ns.length ≤ n → ∃ o os, callN pr fuel N li (scriptS ns) = .ret o (.bl true) os)
    (KX : K.In h) (G : h.Ns mainGlobals mg) (hmg : mg q.y = some (.ref fa)) (c : He.SaysX (p.fa tl) (p.fn body tl) [] p.tb p.ex w h K) :
    LamX.LawAtS l w K (L2.CX l.prog w) (3 * N + 1) n x mg fa h := by
  obtain ⟨fd, F⟩ := He.SaysD.defs (He.SaysT.d c.t) (d := defX body q.i q.y) (List.mem_append_left _ (List.mem_map.mpr ⟨q, Pg.mem_all hq, rfl⟩))
  have hfs : p.fs li = some (q.y, 1) := by
    unfold Pg.fs
    rw [hq, ← hnp]
    rfl
  have b := FunD.bindsA F (O.bd.at_ hq)
  have hm := He.glo_ok KX G (He.SaysD.facts (He.SaysT.d c.t) (f := .glo q.y) (List.mem_append_left _ (List.mem_append_left _ (List.mem_append_left _ (List.mem_append_left _ (List.mem_map.mpr ⟨q, Pg.mem_all hq, rfl⟩))))))
  have efa := hmg.symm.trans hm
  cases efa
  have hex := c.more
  unfold Pg.ex at hex
  simp only [Bool.and_eq_true] at hex
  have mem : ∀ {r : Addr × Addr}, r ∈ p.tb.map (He.cT K) → ∃ t ∈ p.tb, r = He.cT K t := fun hr => let ⟨t, ht, e⟩ := List.mem_map.mp hr; ⟨t, ht, e.symm⟩
  refine ⟨fd, p.tb.map (He.cT K), spC (C0 K (p.cv K) (p.T K)).plain (callN pr fuel N li) 1, fun r hr => ?_, fun r hr => ?_, fun r hr => ?_, fun s u => ?_, fun H a ns hl hb hT hS => ?_, fun base hB hG hTB => ?_⟩
  · obtain ⟨t, ht, rfl⟩ := mem hr
    exact c.empty t ht
  · obtain ⟨t, ht, rfl⟩ := mem hr
    exact c.out t ht
  · obtain ⟨t, ht, rfl⟩ := mem hr
    exact PySem.W.codeHd_of_K KX (c.hd t ht)
  · have := b s [u] (by rw [hnp, hN]; rfl)
    rw [hnp, hN] at this
    exact this
  · refine sp_script (fun r hr => ?_) ?_ (pl ns hl)
    · obtain ⟨t, ht, rfl⟩ := List.mem_map.mp hr
      exact hT (He.cT K (t.y, none)) (List.mem_map.mpr ⟨(t.y, none), List.mem_map.mpr ⟨t, ht, rfl⟩, rfl⟩)
    · rcases hS with hS | ⟨o, its, m, e, e2, _⟩
      · exact hS
      · exact absurd e2 (nolst_ok hex.1 e)
  · obtain ⟨f2, fd2, pn, FO, m2, k2, b2, q2, hq2, F2, rfl, rfl⟩ := pg_calls (P := l.prog) (w := w) O c hB hG (fun t ht => hTB _ (List.mem_map.mpr ⟨t, ht, rfl⟩)) fuel N li q.y 1 hfs
    rw [hq] at hq2
    cases hq2
    have e : fd2 = fd := by
      obtain ⟨_, _, _, _, _, _, _, _, _, _, _, lk, _⟩ := F.ex
      obtain ⟨_, _, _, _, _, _, _, _, _, _, _, lk2, _⟩ := F2.ex
      rw [lk] at lk2
      cases lk2
      rfl
    subst e
    rw [hnp, hN] at FO
    exact FO
end
end VS
namespace VS
/-- the trees, one by one -/
def PgDf : List (Option DD) → List Def → Prop
  | [], _ => True
  | none :: r, _ :: m => True ∧ PgDf r m
  | some q :: r, d :: m => q.d = d ∧ PgDf r m
  | none :: _, [] => False
  | some _ :: _, [] => False
theorem PgDf.ok : ∀ {l : List (Option DD)} {m : List Def} {j : Nat} {q : DD}, PgDf l m → l[j]? = some (some q) → m[j]? = some q.d
  | [], _, _, _, _, e => by simp at e
  | none :: _, [], _, _, h, _ => False.elim h
  | some _ :: _, [], _, _, h, _ => False.elim h
  | none :: r, d :: m, 0, q, _, e => by simp at e
  | none :: r, d :: m, j + 1, q, h, e => by
    have := PgDf.ok (l := r) (m := m) (j := j) h.2 (by simpa using e)
    simpa using this
  | some q' :: r, d :: m, 0, q, h, e => by
    simp at e; subst e; simpa using h.1.symm
  | some q' :: r, d :: m, j + 1, q, h, e => by
    have := PgDf.ok (l := r) (m := m) (j := j) h.2 (by simpa using e)
    simpa using this
end VS
end

section
set_option autoImplicit false
namespace VS.Pr
def d_share : Def := ⟨2, 5, [.ifs (.cmp .eq (.var 1) (.int 0)) [.raise 1] [],
  .unp (.tup [(.nm 2),(.nm 3)]) (.tup [(.bi .abs [(.var 0)]),(.bi .abs [(.var 1)])]),
  .whl (.cmp .ne (.var 3) (.int 0)) [.unp (.tup [(.nm 2),(.nm 3)]) (.tup [(.var 3),(.bin .mod (.var 2) (.var 3))])],
  .asg 4 (.ife (.cmp .gt (.var 1) (.int 0)) (.int 1) (.bin .sub (.int 0) (.int 1))),
  .ret (.tup [(.bin .fdiv (.bin .mul (.var 4) (.var 0)) (.var 2)),(.bin .fdiv (.bin .mul (.var 4) (.var 1)) (.var 2))])], []⟩
def d_whole : Def := ⟨1, 1, [.ret (.tup [(.var 0),(.int 1)])], []⟩
def d_plus : Def := ⟨2, 2, [.ret (.call 0 [(.bin .add (.bin .mul (.idx (.var 0) (.int 0)) (.idx (.var 1) (.int 1))) (.bin .mul (.idx (.var 1) (.int 0)) (.idx (.var 0) (.int 1)))),(.bin .mul (.idx (.var 0) (.int 1)) (.idx (.var 1) (.int 1)))])], []⟩
def d_minus : Def := ⟨2, 2, [.ret (.call 0 [(.bin .sub (.bin .mul (.idx (.var 0) (.int 0)) (.idx (.var 1) (.int 1))) (.bin .mul (.idx (.var 1) (.int 0)) (.idx (.var 0) (.int 1)))),(.bin .mul (.idx (.var 0) (.int 1)) (.idx (.var 1) (.int 1)))])], []⟩
def d_times : Def := ⟨2, 2, [.ret (.call 0 [(.bin .mul (.idx (.var 0) (.int 0)) (.idx (.var 1) (.int 0))),(.bin .mul (.idx (.var 0) (.int 1)) (.idx (.var 1) (.int 1)))])], []⟩
def d_parted : Def := ⟨2, 2, [.ifs (.cmp .eq (.idx (.var 1) (.int 0)) (.int 0)) [.raise 1] [],
  .ret (.call 0 [(.bin .mul (.idx (.var 0) (.int 0)) (.idx (.var 1) (.int 1))),(.bin .mul (.idx (.var 0) (.int 1)) (.idx (.var 1) (.int 0)))])], []⟩
def d_is_less : Def := ⟨2, 2, [.ret (.cmp .lt (.bin .mul (.idx (.var 0) (.int 0)) (.idx (.var 1) (.int 1))) (.bin .mul (.idx (.var 1) (.int 0)) (.idx (.var 0) (.int 1))))], []⟩
def d_below : Def := ⟨1, 1, [.ret (.bin .fdiv (.idx (.var 0) (.int 0)) (.idx (.var 0) (.int 1)))], []⟩
def d_above : Def := ⟨1, 1, [.ret (.bin .sub (.int 0) (.bin .fdiv (.bin .sub (.int 0) (.idx (.var 0) (.int 0))) (.idx (.var 0) (.int 1))))], []⟩
def d_nearest : Def := ⟨1, 1, [.ret (.bin .fdiv (.bin .add (.bin .mul (.int 2) (.idx (.var 0) (.int 0))) (.idx (.var 0) (.int 1))) (.bin .mul (.int 2) (.idx (.var 0) (.int 1))))], []⟩
def d_sum_of : Def := ⟨1, 3, [.asg 1 (.tup [(.int 0),(.int 1)]),
  .for (.nm 2) (.ex (.var 0)) [.asg 1 (.call 2 [(.var 1),(.var 2)])],
  .ret (.var 1)], []⟩
def d_told_share : Def := ⟨1, 1, [.ret (.bin .add (.fst [(.idx (.var 0) (.int 0))]) (.ife (.cmp .ne (.idx (.var 0) (.int 1)) (.int 1)) (.fst [(.str [58]),(.idx (.var 0) (.int 1))]) (.str [])))], []⟩
def d_split : Def := ⟨2, 8, [.ifs (.or [(.cmp .eq (.bi .len [(.var 1)]) (.int 0)),(.cmp .lt (.bi .min [(.var 1)]) (.int 0)),(.cmp .eq (.bi .sum [(.var 1)]) (.int 0)),(.cmp .lt (.var 0) (.int 0))]) [.raise 1] [],
  .asg 2 (.bi .sum [(.var 1)]),
  .asg 3 (.lc (.bin .fdiv (.bin .mul (.var 0) (.var 4)) (.var 2)) (.nm 4) (.ex (.var 1)) []),
  .asg 5 (.gn .sorted (.tup [(.bin .sub (.int 0) (.bin .mod (.bin .mul (.var 0) (.var 4)) (.var 2))),(.var 6)]) (.tup [(.nm 6),(.nm 4)]) (.enum (.var 1)) []),
  .for (.tup [(.nm 7),(.nm 6)]) (.ex (.slc (.var 5) .non (.bin .sub (.var 0) (.bi .sum [(.var 3)])))) [.augs .add 3 (.var 6) (.int 1)],
  .ret (.bi .tuple [(.var 3)])], []⟩
def d_law_dice : Def := ⟨1, 1, [.ifs (.cmp2 .lt .lt (.bin .sub (.int 0) (.int 10)) (.var 0) (.int 10)) [.ret (.lst [(.bi .abs [(.var 0)]),(.int 0),(.int 2)])] [],
  .ret (.lst [(.var 0),(.bin .add (.int 1) (.bin .mod (.bi .int [(.var 0)]) (.int 1009))),(.bi .int [(.cmp .ge (.var 0) (.bin .pow (.int 10) (.int 18)))])])], []⟩
def d_law_roll : Def := ⟨2, 3, [.ifs (.or [(.cmp .eq (.idx (.var 0) (.int 2)) (.int 2)),(.and [(.cmp .eq (.idx (.var 0) (.int 2)) (.int 1)),(.cmp .gt (.idx (.var 0) (.int 0)) (.int 0))])]) [.asg 2 (.bin .mod (.bi .int [(.idx (.var 0) (.int 0))]) (.var 1)),
    .set 0 (.int 0) (.bin .fdiv (.idx (.var 0) (.int 0)) (.var 1)),
    .ret (.var 2)] [],
  .set 0 (.int 2) (.int 0),
  .ifs (.cmp .gt (.var 1) (.int 100000000)) [.ret (.bin .mod (.bi .int [(.bin .add (.bin .mul (.call 14 [(.var 0),(.bin .add (.bin .fdiv (.var 1) (.int 100000000)) (.int 1))]) (.int 100000000)) (.call 14 [(.var 0),(.int 100000000)]))]) (.var 1))] [],
  .set 0 (.int 0) (.bin .mod (.bi .int [(.bin .add (.bin .add (.bin .mul (.idx (.var 0) (.int 0)) (.int 48271)) (.bin .mul (.idx (.var 0) (.int 1)) (.int 69621))) (.int 11))]) (.int 2147483647)),
  .set 0 (.int 1) (.bin .add (.idx (.var 0) (.int 1)) (.int 1)),
  .ret (.bin .mod (.bi .int [(.bin .fdiv (.idx (.var 0) (.int 0)) (.int 7))]) (.var 1))], []⟩
def d_law_rounds : Def := ⟨2, 4, [.asg 2 (.slc (.var 0) .non (.var 1)),
  .ifs (.cmp .eq (.var 2) (.lst [])) [.asg 2 (.lst [(.int 0)])] [],
  .ret (.lc1 (.call 13 [(.var 3)]) 3 (.ex (.var 2)))], []⟩
def d_law_told : Def := ⟨1, 1, [], []⟩
def d_law_gcd : Def := ⟨2, 2, [.ret (.ife (.cmp .eq (.var 1) (.int 0)) (.var 0) (.call 17 [(.var 1),(.bin .mod (.var 0) (.var 1))]))], []⟩
def d_law_share : Def := ⟨2, 4, [.asg 2 (.ife (.cmp .lt (.var 1) (.int 0)) (.neg (.int 1)) (.int 1)),
  .asg 3 (.call 17 [(.bi .abs [(.var 0)]),(.bi .abs [(.var 1)])]),
  .ret (.tup [(.bin .fdiv (.bin .mul (.var 2) (.var 0)) (.var 3)),(.bin .fdiv (.bin .mul (.var 2) (.var 1)) (.var 3))])], []⟩
def d_law_add : Def := ⟨2, 2, [.ret (.call 18 [(.bin .add (.bin .mul (.idx (.var 0) (.int 0)) (.idx (.var 1) (.int 1))) (.bin .mul (.idx (.var 1) (.int 0)) (.idx (.var 0) (.int 1)))),(.bin .mul (.idx (.var 0) (.int 1)) (.idx (.var 1) (.int 1)))])], []⟩
def d_law_mul : Def := ⟨2, 2, [.ret (.call 18 [(.bin .mul (.idx (.var 0) (.int 0)) (.idx (.var 1) (.int 0))),(.bin .mul (.idx (.var 0) (.int 1)) (.idx (.var 1) (.int 1)))])], []⟩
def d_law_less : Def := ⟨2, 2, [.ret (.cmp .lt (.bin .mul (.idx (.var 0) (.int 0)) (.idx (.var 1) (.int 1))) (.bin .mul (.idx (.var 1) (.int 0)) (.idx (.var 0) (.int 1))))], []⟩
def d_law_one : Def := ⟨1, 1, [.ret (.call 18 [(.bin .sub (.call 14 [(.var 0),(.int 41)]) (.int 20)),(.bin .add (.int 1) (.call 14 [(.var 0),(.int 12)]))])], []⟩
def d_law_plain : Def := ⟨0, 4, [.asg 0 (.lst [(.call 0 [(.int 4),(.neg (.int 6))]),(.call 0 [(.int 0),(.int 5)]),(.call 1 [(.int 3)]),(.call 2 [(.tup [(.int 1),(.int 2)]),(.tup [(.int 1),(.int 3)])]),(.call 3 [(.tup [(.int 1),(.int 2)]),(.tup [(.int 1),(.int 3)])]),(.call 4 [(.tup [(.int 2),(.int 3)]),(.tup [(.int 3),(.int 4)])]),(.call 5 [(.tup [(.int 1),(.int 2)]),(.tup [(.neg (.int 1)),(.int 4)])])]),
  .asg 0 (.bin .add (.var 0) (.lst [(.call 6 [(.tup [(.int 1),(.int 3)]),(.tup [(.int 1),(.int 2)])]),(.call 6 [(.tup [(.int 1),(.int 2)]),(.tup [(.int 1),(.int 2)])]),(.call 7 [(.tup [(.neg (.int 7)),(.int 2)])]),(.call 8 [(.tup [(.neg (.int 7)),(.int 2)])]),(.call 8 [(.tup [(.int 6),(.int 1)])]),(.call 9 [(.tup [(.int 1),(.int 2)])]),(.call 9 [(.tup [(.neg (.int 1)),(.int 2)])]),(.call 10 [(.tup [])])])),
  .asg 0 (.bin .add (.var 0) (.lst [(.call 10 [(.tup [(.tup [(.int 1),(.int 2)]),(.tup [(.int 1),(.int 3)])])]),(.call 11 [(.tup [(.int 1),(.int 2)])]),(.call 11 [(.tup [(.int 3),(.int 1)])]),(.call 12 [(.int 10),(.tup [(.int 1),(.int 1),(.int 1)])]),(.call 12 [(.int 7),(.tup [(.int 0),(.int 3),(.int 2)])]),(.call 12 [(.int 0),(.tup [(.int 1)])])])),
  .lams 1 5,
  .lamsAdd 1 5 1,
  .ifs (.cmp .ne (.refused 1 2 3 6 [1] [83,104,97,114,101,69,114,114,111,114]) (.lst [])) [.ret (.bl false)] [],
  .ret (.cmp .eq (.var 0) (.lst [(.tup [(.neg (.int 2)),(.int 3)]),(.tup [(.int 0),(.int 1)]),(.tup [(.int 3),(.int 1)]),(.tup [(.int 5),(.int 6)]),(.tup [(.int 1),(.int 6)]),(.tup [(.int 1),(.int 2)]),(.tup [(.neg (.int 2)),(.int 1)]),(.bl true),(.bl false),(.neg (.int 4)),(.neg (.int 3)),(.int 6),(.int 1),(.int 0),(.tup [(.int 0),(.int 1)]),(.tup [(.int 5),(.int 6)]),(.str [49,58,50]),(.str [51]),(.tup [(.int 4),(.int 3),(.int 3)]),(.tup [(.int 0),(.int 4),(.int 3)]),(.tup [(.int 0)])]))], [(.call 0 [(.int 1),(.int 0)]),
    (.call 5 [(.tup [(.int 1),(.int 2)]),(.tup [(.int 0),(.int 1)])]),
    (.call 12 [(.int 1),(.tup [])]),
    (.call 12 [(.int 1),(.tup [(.int 0),(.int 0)])]),
    (.call 12 [(.neg (.int 1)),(.tup [(.int 1)])]),
    (.call 12 [(.int 1),(.tup [(.int 2),(.neg (.int 1))])])]⟩
def d_law : Def := ⟨1, 22, [.for1 1 (.call 15 [(.var 0),(.int 1)]) [.unp (.tup [(.nm 2),(.nm 3)]) (.tup [(.bin .sub (.call 14 [(.var 1),(.int 400)]) (.int 200)),(.bin .sub (.call 14 [(.var 1),(.int 60)]) (.int 30))]),
    .ifs (.cmp .ne (.told (.call 0 [(.var 2),(.var 3)]) [1] [83,104,97,114,101,69,114,114,111,114]) (.ife (.cmp .ne (.var 3) (.int 0)) (.call 18 [(.var 2),(.var 3)]) (.str [83,104,97,114,101,69,114,114,111,114]))) [.ret (.bl false)] [],
    .unp (.tup [(.nm 4),(.nm 5),(.nm 6)]) (.tup [(.call 22 [(.var 1)]),(.call 22 [(.var 1)]),(.call 22 [(.var 1)])]),
    .ifs (.or [(.cmp .ne (.call 2 [(.var 4),(.var 5)]) (.call 19 [(.var 4),(.var 5)])),(.cmp .ne (.call 3 [(.call 2 [(.var 4),(.var 5)]),(.var 5)]) (.var 4)),(.cmp .ne (.call 4 [(.var 4),(.var 5)]) (.call 20 [(.var 4),(.var 5)])),(.cmp .ne (.call 4 [(.var 4),(.call 2 [(.var 5),(.var 6)])]) (.call 2 [(.call 4 [(.var 4),(.var 5)]),(.call 4 [(.var 4),(.var 6)])]))]) [.ret (.bl false)] [],
    .ifs (.cmp .ne (.told (.call 5 [(.var 4),(.var 5)]) [1] [83,104,97,114,101,69,114,114,111,114]) (.ife (.cmp .ne (.idx (.var 5) (.int 0)) (.int 0)) (.call 18 [(.bin .mul (.idx (.var 4) (.int 0)) (.idx (.var 5) (.int 1))),(.bin .mul (.idx (.var 4) (.int 1)) (.idx (.var 5) (.int 0)))]) (.str [83,104,97,114,101,69,114,114,111,114]))) [.ret (.bl false)] [],
    .unp (.tup [(.nm 7),(.nm 8),(.nm 9)]) (.tup [(.call 7 [(.var 4)]),(.call 8 [(.var 4)]),(.call 9 [(.var 4)])]),
    .ifs (.or [(.not (.cmp2 .le .lt (.bin .mul (.var 7) (.idx (.var 4) (.int 1))) (.idx (.var 4) (.int 0)) (.bin .mul (.bin .add (.var 7) (.int 1)) (.idx (.var 4) (.int 1))))),(.not (.cmp2 .lt .le (.bin .mul (.bin .sub (.var 8) (.int 1)) (.idx (.var 4) (.int 1))) (.idx (.var 4) (.int 0)) (.bin .mul (.var 8) (.idx (.var 4) (.int 1))))),(.not (.cmp2 .le .lt (.bin .mul (.bin .sub (.bin .mul (.int 2) (.var 9)) (.int 1)) (.idx (.var 4) (.int 1))) (.bin .mul (.int 2) (.idx (.var 4) (.int 0))) (.bin .mul (.bin .add (.bin .mul (.int 2) (.var 9)) (.int 1)) (.idx (.var 4) (.int 1)))))]) [.ret (.bl false)] [],
    .unp (.tup [(.nm 10),(.nm 11)]) (.tup [(.lc (.call 22 [(.var 1)]) (.nm 12) (.range1 (.call 14 [(.var 1),(.int 6)])) []),(.tup [(.int 0),(.int 1)])]),
    .for (.nm 13) (.ex (.var 10)) [.asg 11 (.call 19 [(.var 11),(.var 13)])],
    .ifs (.or [(.cmp .ne (.call 6 [(.var 4),(.var 5)]) (.call 21 [(.var 4),(.var 5)])),(.cmp .ne (.call 10 [(.var 10)]) (.var 11)),(.cmp .ne (.call 1 [(.var 2)]) (.tup [(.var 2),(.int 1)])),(.cmp .ne (.call 11 [(.var 4)]) (.ife (.cmp .eq (.idx (.var 4) (.int 1)) (.int 1)) (.bi .str [(.idx (.var 4) (.int 0))]) (.bin .add (.bin .add (.bi .str [(.idx (.var 4) (.int 0))]) (.str [58])) (.bi .str [(.idx (.var 4) (.int 1))]))))]) [.ret (.bl false)] [],
    .unp (.tup [(.nm 14),(.nm 15)]) (.tup [(.lc (.call 14 [(.var 1),(.int 6)]) (.nm 12) (.range1 (.call 14 [(.var 1),(.int 6)])) []),(.call 14 [(.var 1),(.int 50)])]),
    .asg 16 (.told (.call 12 [(.var 15),(.var 14)]) [1] [83,104,97,114,101,69,114,114,111,114]),
    .ifs (.cmp .ne (.cmp .eq (.var 16) (.str [83,104,97,114,101,69,114,114,111,114])) (.cmp .eq (.bi .sum [(.var 14)]) (.int 0))) [.ret (.bl false)] [],
    .ifs (.cmp .ne (.var 16) (.str [83,104,97,114,101,69,114,114,111,114])) [.asg 17 (.lc (.bin .fdiv (.bin .mul (.var 15) (.var 18)) (.bi .sum [(.var 14)])) (.nm 18) (.ex (.var 14)) []),
      .asg 19 (.lc (.var 12) (.tup [(.nm 20),(.nm 12)]) (.ex (.bi .sorted [(.lc (.tup [(.bin .sub (.bin .mul (.idx (.var 17) (.var 12)) (.bi .sum [(.var 14)])) (.bin .mul (.var 15) (.var 18))),(.var 12)]) (.tup [(.nm 12),(.nm 18)]) (.enum (.var 14)) [])])) []),
      .asg 21 (.slc (.var 19) .non (.bin .sub (.var 15) (.bi .sum [(.var 17)]))),
      .ifs (.or [(.cmp .ne (.bi .list [(.var 16)]) (.lc (.bin .add (.idx (.var 17) (.var 12)) (.bi .int [(.cmp .isin (.var 12) (.var 21))])) (.nm 12) (.range1 (.bi .len [(.var 14)])) [])),(.cmp .ne (.bi .sum [(.var 16)]) (.var 15))]) [.ret (.bl false)] []] []],
  .ret (.call 23 [])], []⟩
def prog : Prog := ⟨[d_share, d_whole, d_plus, d_minus, d_times, d_parted, d_is_less, d_below, d_above, d_nearest, d_sum_of, d_told_share, d_split, d_law_dice, d_law_roll, d_law_rounds, d_law_told, d_law_gcd, d_law_share, d_law_add, d_law_mul, d_law_less, d_law_one, d_law_plain, d_law], []⟩
end VS.Pr
end

section
set_option autoImplicit false
set_option linter.all false
/-! PL0: ways to evaluate. -/
namespace VS
theorem few_of {n : Nat} (h : n ≤ 16777216) : few n = true := by simpa [few] using h
/-- |i| < 2^64 -/
def Sm (i : Int) : Prop := -(2 ^ 64) < i ∧ i < 2 ^ 64
theorem mulOk_l {i j : Int} (h : -(2 ^ 64) < i ∧ i < 2 ^ 64) : mulOk i j = true := by
  unfold mulOk
  rw [decide_eq_true h.1, decide_eq_true h.2]
  rfl
theorem mulOk_r {i j : Int} (h : -(2 ^ 64) < j ∧ j < 2 ^ 64) : mulOk i j = true := by
  unfold mulOk
  rw [decide_eq_true h.1, decide_eq_true h.2, Bool.and_self, Bool.or_true]
  rfl
end VS
namespace VS
theorem divOk_of {j : Int} (h : 0 < j) (h2 : j < 2 ^ 64) : divOk j = true := by
  have e : j.natAbs < 2 ^ 64 := by omega
  have : j.natAbs.log2 < 9000 := by
    by_cases z : j.natAbs = 0
    · rw [z]; decide
    · have := (Nat.log2_lt (k := 64) z).2 e
      omega
  simp [R.bind, R.bindS, lift, ltD, truD, runDef, entry, evS, retE, evE, evG, evT, evL, evA, evO, evF, evC, evSc, argE, opd, op1, op2, opL, res, resL, trans, tst, truO, getS, putS, newS, Ow.fl, binD, cmpD, cmpV, notD, negD, idxV, idxD, place, callR, refs, nodupN, argSlots, backArgs, outs, keepP, bindT, bindTs, varE, varT, setR, setD, biD, augR, augsR, itemR, augV, ownO, unlS, divOk, h, this]
theorem callN_eq {P : Prog} {fuel n j : Nat} {d : Def} {ps : Rho} (h : P.defs[j]? = some d) : callN P fuel (n + 1) j ps = runDef ⟨callN P fuel n, fun g => P.glo[g]?, fuel, lamsOf ⟨callN P fuel n, fun g => P.glo[g]?, fuel, fun _ _ => .no⟩ d.lams⟩ d ps := by
  rw [callN, h]
end VS
namespace VS
section
variable {F : Fns} {s : St} {ss : List St} {r r' : Rho} {d : D} {o : Ow} {c : Nat}
theorem sq_nil : evSs F [] r = .nx r := by simp only [evSs]
theorem sq_nx (h : evS F s r = .nx r') : evSs F (s :: ss) r = evSs F ss r' := by simp only [evSs, h]
theorem sq_rt (h : evS F s r = .rt o d r') : evSs F (s :: ss) r = .rt o d r' := by simp only [evSs, h]
theorem sq_ex (h : evS F s r = .ex c r') : evSs F (s :: ss) r = .ex c r' := by simp only [evSs, h]
theorem sq_one : evSs F [s] r = evS F s r := by
  simp only [evSs]
  cases evS F s r <;> rfl
/-- a def that runs through -/
theorem def_rt {d : Def} {ps : Rho} {v : D} (hl : ps.length = d.np) (h : evSs F d.body (entry d ps) = .rt o v r') : runDef F d ps = .ret o v (outs d.np r') := by
  unfold runDef
  rw [if_pos hl, h]
theorem def_ex {d : Def} {ps : Rho} (hl : ps.length = d.np) (h : evSs F d.body (entry d ps) = .ex c r') : runDef F d ps = .ex c (outs d.np r') := by
  unfold runDef
  rw [if_pos hl, h]
end
end VS
namespace VS
section
variable {test : Rho → R Bool} {body : Rho → SR} {n : Nat} {r r1 r' : Rho}
theorem lw_stop (h : test r = .ok false r1) : loopW test body (n + 1) r = .nx r1 := by simp [R.bind, R.bindS, lift, ltD, truD, runDef, entry, evS, retE, evE, evG, evT, evL, evA, evO, evF, evC, evSc, argE, opd, op1, op2, opL, res, resL, trans, tst, truO, getS, putS, newS, Ow.fl, binD, cmpD, cmpV, notD, negD, idxV, idxD, place, callR, refs, nodupN, argSlots, backArgs, outs, keepP, bindT, bindTs, varE, varT, setR, setD, biD, augR, augsR, itemR, augV, ownO, unlS, loopW, h]
theorem lw_go (h : test r = .ok true r1) (h2 : body r1 = .nx r') : loopW test body (n + 1) r = loopW test body n r' := by simp [R.bind, R.bindS, lift, ltD, truD, runDef, entry, evS, retE, evE, evG, evT, evL, evA, evO, evF, evC, evSc, argE, opd, op1, op2, opL, res, resL, trans, tst, truO, getS, putS, newS, Ow.fl, binD, cmpD, cmpV, notD, negD, idxV, idxD, place, callR, refs, nodupN, argSlots, backArgs, outs, keepP, bindT, bindTs, varE, varT, setR, setD, biD, augR, augsR, itemR, augV, ownO, unlS, loopW, h, h2]
end
end VS
namespace VS
/-- a for as a fold -/
theorem loopF_fold {α β : Type} {f : α → β → α} {enc : β → D} {P : α → List β → Rho → Prop} {step : D → Rho → SR} (h : ∀ t s ss r, P t (s :: ss) r → ∃ r', step (enc s) r = .nx r' ∧ P (f t s) ss r') : ∀ (ss : List β) (t : α) (r : Rho), P t ss r → ∃ r', loopF step (ss.map enc) r = .nx r' ∧ P (ss.foldl f t) [] r'
  | [], t, r, p => ⟨r, by simp [R.bind, R.bindS, lift, ltD, truD, runDef, entry, evS, retE, evE, evG, evT, evL, evA, evO, evF, evC, evSc, argE, opd, op1, op2, opL, res, resL, trans, tst, truO, getS, putS, newS, Ow.fl, binD, cmpD, cmpV, notD, negD, idxV, idxD, place, callR, refs, nodupN, argSlots, backArgs, outs, keepP, bindT, bindTs, varE, varT, setR, setD, biD, augR, augsR, itemR, augV, ownO, unlS, loopF], p⟩
  | s :: ss, t, r, p => by
    obtain ⟨r1, e1, p1⟩ := h t s ss r p
    obtain ⟨r2, e2, p2⟩ := loopF_fold h ss _ _ p1
    exact ⟨r2, by simp only [List.map_cons, loopF, e1]; exact e2, p2⟩
/-- a comprehension whose things are known by a property -/
theorem loopC_any {α : Type} {ns : List Nat} {step : D → Rho → R (Option α)} {P : Rho → Prop} {Q : α → Prop} (h : ∀ d r, P r → ∃ x r', step d r = .ok (some x) r' ∧ Q x ∧ P (wipeAll r' ns)) : ∀ (ds : List D) (r : Rho), P r → ∃ xs r', loopC ns step ds r = .ok xs r' ∧ xs.length = ds.length ∧ (∀ x ∈ xs, Q x) ∧ P r'
  | [], r, p => ⟨[], r, by simp [R.bind, R.bindS, lift, ltD, truD, runDef, entry, evS, retE, evE, evG, evT, evL, evA, evO, evF, evC, evSc, argE, opd, op1, op2, opL, res, resL, trans, tst, truO, getS, putS, newS, Ow.fl, binD, cmpD, cmpV, notD, negD, idxV, idxD, place, callR, refs, nodupN, argSlots, backArgs, outs, keepP, bindT, bindTs, varE, varT, setR, setD, biD, augR, augsR, itemR, augV, ownO, unlS, loopC], rfl, by simp [R.bind, R.bindS, lift, ltD, truD, runDef, entry, evS, retE, evE, evG, evT, evL, evA, evO, evF, evC, evSc, argE, opd, op1, op2, opL, res, resL, trans, tst, truO, getS, putS, newS, Ow.fl, binD, cmpD, cmpV, notD, negD, idxV, idxD, place, callR, refs, nodupN, argSlots, backArgs, outs, keepP, bindT, bindTs, varE, varT, setR, setD, biD, augR, augsR, itemR, augV, ownO, unlS], p⟩
  | d :: ds, r, p => by
    obtain ⟨x, r1, e1, q, p1⟩ := h d r p
    obtain ⟨xs, r2, e2, l, qs, p2⟩ := loopC_any h ds _ p1
    refine ⟨x :: xs, r2, by simp [R.bind, R.bindS, lift, ltD, truD, runDef, entry, evS, retE, evE, evG, evT, evL, evA, evO, evF, evC, evSc, argE, opd, op1, op2, opL, res, resL, trans, tst, truO, getS, putS, newS, Ow.fl, binD, cmpD, cmpV, notD, negD, idxV, idxD, place, callR, refs, nodupN, argSlots, backArgs, outs, keepP, bindT, bindTs, varE, varT, setR, setD, biD, augR, augsR, itemR, augV, ownO, unlS, loopC, e1, e2], by simp [R.bind, R.bindS, lift, ltD, truD, runDef, entry, evS, retE, evE, evG, evT, evL, evA, evO, evF, evC, evSc, argE, opd, op1, op2, opL, res, resL, trans, tst, truO, getS, putS, newS, Ow.fl, binD, cmpD, cmpV, notD, negD, idxV, idxD, place, callR, refs, nodupN, argSlots, backArgs, outs, keepP, bindT, bindTs, varE, varT, setR, setD, biD, augR, augsR, itemR, augV, ownO, unlS, l], fun y hy => ?_, p2⟩
    rcases List.mem_cons.1 hy with rfl | hy
    · exact q
    · exact qs y hy
/-- .. that are a map's -/
theorem loopC_map {α β : Type} {ns : List Nat} {step : D → Rho → R (Option α)} {P : Rho → Prop} {enc : β → D} {f : β → α} : ∀ (ds : List β) (r : Rho), (∀ d ∈ ds, ∀ r, P r → ∃ r', step (enc d) r = .ok (some (f d)) r' ∧ P (wipeAll r' ns)) → P r → ∃ r', loopC ns step (ds.map enc) r = .ok (ds.map f) r' ∧ P r'
  | [], r, h, p => ⟨r, by simp [R.bind, R.bindS, lift, ltD, truD, runDef, entry, evS, retE, evE, evG, evT, evL, evA, evO, evF, evC, evSc, argE, opd, op1, op2, opL, res, resL, trans, tst, truO, getS, putS, newS, Ow.fl, binD, cmpD, cmpV, notD, negD, idxV, idxD, place, callR, refs, nodupN, argSlots, backArgs, outs, keepP, bindT, bindTs, varE, varT, setR, setD, biD, augR, augsR, itemR, augV, ownO, unlS, loopC], p⟩
  | d :: ds, r, h, p => by
    obtain ⟨r1, e1, p1⟩ := h d (by simp [R.bind, R.bindS, lift, ltD, truD, runDef, entry, evS, retE, evE, evG, evT, evL, evA, evO, evF, evC, evSc, argE, opd, op1, op2, opL, res, resL, trans, tst, truO, getS, putS, newS, Ow.fl, binD, cmpD, cmpV, notD, negD, idxV, idxD, place, callR, refs, nodupN, argSlots, backArgs, outs, keepP, bindT, bindTs, varE, varT, setR, setD, biD, augR, augsR, itemR, augV, ownO, unlS]) r p
    obtain ⟨r2, e2, p2⟩ := loopC_map ds _ (fun d hd => h d (by simp [R.bind, R.bindS, lift, ltD, truD, runDef, entry, evS, retE, evE, evG, evT, evL, evA, evO, evF, evC, evSc, argE, opd, op1, op2, opL, res, resL, trans, tst, truO, getS, putS, newS, Ow.fl, binD, cmpD, cmpV, notD, negD, idxV, idxD, place, callR, refs, nodupN, argSlots, backArgs, outs, keepP, bindT, bindTs, varE, varT, setR, setD, biD, augR, augsR, itemR, augV, ownO, unlS, hd])) p1
    exact ⟨r2, by simp [R.bind, R.bindS, lift, ltD, truD, runDef, entry, evS, retE, evE, evG, evT, evL, evA, evO, evF, evC, evSc, argE, opd, op1, op2, opL, res, resL, trans, tst, truO, getS, putS, newS, Ow.fl, binD, cmpD, cmpV, notD, negD, idxV, idxD, place, callR, refs, nodupN, argSlots, backArgs, outs, keepP, bindT, bindTs, varE, varT, setR, setD, biD, augR, augsR, itemR, augV, ownO, unlS, loopC, e1, e2], p2⟩
end VS
namespace VS
/-- one turn of a for -/
def stepF (F : Fns) (t : Tg) (b : List St) (d : D) (r : Rho) : SR := match bindT t d r with
  | some r3 => evSs F b r3
  | none => .no
theorem ev_for {F : Fns} {t : Tg} {s : Sc} {b : List St} {r r1 : Rho} {its : List D} {ws : List Nat} {q : SR} (h : evSc F s r = .ok (its, ws) r1) (hl : loopF (stepF F t b) its (lendAll r1 ws) = q) : evS F (.for t s b) r = unlS ws q := by
  rw [evS, h, ← hl]
  rfl
end VS
namespace VS
/-- one turn of a comprehension -/
def stepC (F : Fns) (e : Ex) (t : Tg) (c : List Ex) (d : D) (r : Rho) : R (Option D) := turnC t (evC F c) (fun r3 => (evE F e r3).bind fun v r4 => .ok v.2 r4) d r
section
variable {F : Fns} {t : Tg} {s : Sc} {e : Ex} {c : List Ex} {r r1 r2 : Rho} {its ds : List D} {ws : List Nat} {sv : List (Nat × Option Slot)} {v : Ow × D} {i : Nat} {g : Gn}
theorem ev_lc (h : evSc F s r = .ok (its, ws) r1) (hf : its.length ≤ 16777216) (hs : saveAll r1 (namesT t) = some sv) (hl : loopC (namesT t) (stepC F e t c) its (wipeAll (lendAll r1 ws) (namesT t)) = .ok ds r2) : evE F (.lc e t s c) r = .ok (.own, .lst ds) (unlend (backAll r2 sv) ws) := by
  have e1 : inScope t ws r1 (fun r2 => loopC (namesT t) (stepC F e t c) its r2) = .ok ds (unlend (backAll r2 sv) ws) := by
    simp only [inScope, hs, hl]
  rw [evE]
  show ((evSc F s r).bind fun its r1 => if few its.1.length then (inScope t its.2 r1 fun r2 => loopC (namesT t) (stepC F e t c) its.1 r2).bind fun ds r' => R.ok (Ow.own, D.lst ds) r' else .no) = _
  rw [h]
  show (if few its.length then (inScope t ws r1 fun r2 => loopC (namesT t) (stepC F e t c) its r2).bind fun ds r' => R.ok (Ow.own, D.lst ds) r' else .no) = _
  rw [if_pos (few_of hf), e1]
  rfl
theorem ev_gn (hg : gnEv g t (evSc F s) (evC F c) (evE F e) r = gnC (consD (gnD g)) t (evSc F s) (evC F c) (evE F e) r) (h : evSc F s r = .ok (its, ws) r1) (hf : its.length ≤ 16777216) (hs : saveAll r1 (namesT t) = some sv) (hl : loopC (namesT t) (stepC F e t c) its (wipeAll (lendAll r1 ws) (namesT t)) = .ok ds r2) : evE F (.gn g e t s c) r = lift (consD (gnD g) ds) (unlend (backAll r2 sv) ws) := by
  have e1 : inScope t ws r1 (fun r2 => loopC (namesT t) (stepC F e t c) its r2) = .ok ds (unlend (backAll r2 sv) ws) := by
    simp only [inScope, hs, hl]
  rw [evE, hg]
  show ((evSc F s r).bind fun its r1 => if few its.1.length then (inScope t its.2 r1 fun r2 => loopC (namesT t) (stepC F e t c) its.1 r2).bind fun ds r' => lift (consD (gnD g) ds) r' else .no) = _
  rw [h]
  show (if few its.length then (inScope t ws r1 fun r2 => loopC (namesT t) (stepC F e t c) its r2).bind fun ds r' => lift (consD (gnD g) ds) r' else .no) = _
  rw [if_pos (few_of hf), e1]
  rfl
theorem ev_asg (h : evE F e r = .ok v r1) (hi : i < r1.length) : evS F (.asg i e) r = .nx (putS r1 i (newS v.1 v.2)) := by
  rw [evS, h]
  simp only [R.bindS, if_pos hi]
end
theorem ints_map : ∀ ns : List Int, intsD (ns.map D.int) = some ns
  | [] => rfl
  | n :: ns => by simp [R.bind, R.bindS, lift, ltD, truD, runDef, entry, evS, retE, evE, evG, evT, evL, evA, evO, evF, evC, evSc, argE, opd, op1, op2, opL, res, resL, trans, tst, truO, getS, putS, newS, Ow.fl, binD, cmpD, cmpV, notD, negD, idxV, idxD, place, callR, refs, nodupN, argSlots, backArgs, outs, keepP, bindT, bindTs, varE, varT, setR, setD, biD, augR, augsR, itemR, augV, ownO, unlS, intsD, ints_map ns]
theorem pairs_map : ∀ ps : List (Int × Int), pairsI (ps.map fun p => D.tup [.int p.1, .int p.2]) = some ps
  | [] => rfl
  | n :: ns => by simp [R.bind, R.bindS, lift, ltD, truD, runDef, entry, evS, retE, evE, evG, evT, evL, evA, evO, evF, evC, evSc, argE, opd, op1, op2, opL, res, resL, trans, tst, truO, getS, putS, newS, Ow.fl, binD, cmpD, cmpV, notD, negD, idxV, idxD, place, callR, refs, nodupN, argSlots, backArgs, outs, keepP, bindT, bindTs, varE, varT, setR, setD, biD, augR, augsR, itemR, augV, ownO, unlS, pairsI, pairs_map ns]
theorem minI_nonneg {ns : List Int} (h : ∀ x ∈ ns, 0 ≤ x) (n : ns ≠ []) : ∃ m, minI ns = some m ∧ 0 ≤ m := by
  cases ns with
  | nil => exact absurd rfl n
  | cons x xs =>
    refine ⟨_, rfl, ?_⟩
    have : ∀ (l : List Int) (b : Int), 0 ≤ b → (∀ y ∈ l, 0 ≤ y) → 0 ≤ l.foldl (fun b y => if y < b then y else b) b := by
      intro l
      induction l with
      | nil => intro b hb _; exact hb
      | cons y l ih =>
        intro b hb hl
        refine ih _ ?_ fun z hz => hl z (by simp [R.bind, R.bindS, lift, ltD, truD, runDef, entry, evS, retE, evE, evG, evT, evL, evA, evO, evF, evC, evSc, argE, opd, op1, op2, opL, res, resL, trans, tst, truO, getS, putS, newS, Ow.fl, binD, cmpD, cmpV, notD, negD, idxV, idxD, place, callR, refs, nodupN, argSlots, backArgs, outs, keepP, bindT, bindTs, varE, varT, setR, setD, biD, augR, augsR, itemR, augV, ownO, unlS, hz])
        show 0 ≤ if y < b then y else b
        have := hl y (by simp [R.bind, R.bindS, lift, ltD, truD, runDef, entry, evS, retE, evE, evG, evT, evL, evA, evO, evF, evC, evSc, argE, opd, op1, op2, opL, res, resL, trans, tst, truO, getS, putS, newS, Ow.fl, binD, cmpD, cmpV, notD, negD, idxV, idxD, place, callR, refs, nodupN, argSlots, backArgs, outs, keepP, bindT, bindTs, varE, varT, setR, setD, biD, augR, augsR, itemR, augV, ownO, unlS])
        split <;> assumption
    exact this xs x (h x (by simp [R.bind, R.bindS, lift, ltD, truD, runDef, entry, evS, retE, evE, evG, evT, evL, evA, evO, evF, evC, evSc, argE, opd, op1, op2, opL, res, resL, trans, tst, truO, getS, putS, newS, Ow.fl, binD, cmpD, cmpV, notD, negD, idxV, idxD, place, callR, refs, nodupN, argSlots, backArgs, outs, keepP, bindT, bindTs, varE, varT, setR, setD, biD, augR, augsR, itemR, augV, ownO, unlS])) fun y hy => h y (by simp [R.bind, R.bindS, lift, ltD, truD, runDef, entry, evS, retE, evE, evG, evT, evL, evA, evO, evF, evC, evSc, argE, opd, op1, op2, opL, res, resL, trans, tst, truO, getS, putS, newS, Ow.fl, binD, cmpD, cmpV, notD, negD, idxV, idxD, place, callR, refs, nodupN, argSlots, backArgs, outs, keepP, bindT, bindTs, varE, varT, setR, setD, biD, augR, augsR, itemR, augV, ownO, unlS, hy])
theorem insSP {α : Type} {lt : α → α → Bool} {x : α} : ∀ l : List α, (insS lt x l).Perm (x :: l)
  | [] => by simp [R.bind, R.bindS, lift, ltD, truD, runDef, entry, evS, retE, evE, evG, evT, evL, evA, evO, evF, evC, evSc, argE, opd, op1, op2, opL, res, resL, trans, tst, truO, getS, putS, newS, Ow.fl, binD, cmpD, cmpV, notD, negD, idxV, idxD, place, callR, refs, nodupN, argSlots, backArgs, outs, keepP, bindT, bindTs, varE, varT, setR, setD, biD, augR, augsR, itemR, augV, ownO, unlS, insS]
  | y :: l => by
    unfold insS
    split
    · exact ((insSP l).cons y).trans (List.Perm.swap x y l)
    · exact .refl _
theorem sortSP {α : Type} {lt : α → α → Bool} : ∀ l : List α, (sortS lt l).Perm l
  | [] => .refl _
  | x :: l => by
    unfold sortS
    exact (insSP _).trans ((sortSP l).cons x)
end VS
namespace VS
section
variable {F : Fns} {e : Ex} {es : List Ex} {r r1 r2 : Rho} {ds : List D} {v : Ow × D} {t : Tg} {r3 : Rho}
theorem evL_nil : evL F [] r = .ok [] r := by simp only [evL]
theorem evL_cons (h1 : evE F e r = .ok v r1) (h2 : evL F es r1 = .ok ds r2) : evL F (e :: es) r = .ok (v.2 :: ds) r2 := by
  simp only [evL, h1, h2, R.bind]
theorem ev_tup (h : evL F es r = .ok ds r1) : evE F (.tup es) r = .ok (.val, .tup ds) r1 := by simp only [evE, h, R.bind]
theorem ev_unp (h : evE F e r = .ok v r1) (h2 : bindT t v.2 r1 = some r2) : evS F (.unp t e) r = .nx r2 := by simp only [evS, h, R.bindS, h2]
end
end VS
namespace VS
/-- no slot -/
def Nv (a : Ex) : Prop := ∀ (m : Rho → R (Ow × D)) (r : Rho), opd a m r = (m r).bind fun v r' => .ok (.tmp v.2) r'
section
variable {F : Fns} {a b c : Ex} {r r1 r2 : Rho} {x y : Ow × D} {k : Bool} {o : COp} {u v : List St}
theorem Nv.ok (na : Nv a) (ha : evE F a r = .ok x r1) : opd a (evE F a) r = .ok (.tmp x.2) r1 := by
  rw [na, ha]
  rfl
theorem ev_cmp (na : Nv a) (nb : Nv b) (ha : evE F a r = .ok x r1) (hb : evE F b r1 = .ok y r2) (h : cmpD o x.2 y.2 = some k) : evE F (.cmp o a b) r = .ok (.val, .bl k) r2 := by
  have n1 := na.ok ha
  have n2 := nb.ok hb
  rw [evE, n1]
  show (opd b (evE F b) r1).bind (fun y r2 => op2 (.tmp x.2) y (cmpV o) r2) = _
  rw [n2]
  show lift (cmpV o x.2 y.2) r2 = _
  unfold cmpV
  rw [h]
  rfl
theorem ev_or2 (na : Nv a) (nb : Nv b) (ha : evE F a r = .ok (.val, .bl false) r1) (hb : evE F b r1 = .ok (.val, .bl k) r2) : evE F (.or [a, b]) r = .ok (.val, .bl k) r2 := by
  have n1 := na.ok ha
  have n2 := nb.ok hb
  have t1 : trans a (evE F a) r = .ok (.bl false) r1 := by
    unfold trans
    rw [n1]
    rfl
  have t2 : trans b (evE F b) r1 = .ok (.bl k) r2 := by
    unfold trans
    rw [n2]
    rfl
  rw [evE, evO, t1]
  show (evO F [b] r1).bind _ = _
  rw [evO, t2]
  cases k
  · show (evO F [] r2).bind _ = _
    rw [evO]
    rfl
  · rfl
theorem ev_if (nc : Nv c) (hc : evE F c r = .ok (.val, .bl k) r1) : evS F (.ifs c u v) r = if k then evSs F u r1 else evSs F v r1 := by
  have n1 := nc.ok hc
  have t1 : tst c (evE F c) r = .ok k r1 := by
    unfold tst trans
    rw [n1]
    rfl
  rw [evS, t1]
  rfl
end
end VS
end

section
set_option autoImplicit false
set_option linter.all false
namespace VS.K1
open VS
abbrev vi (i : Int) : Option Slot := some ⟨.val, true, .int i⟩
abbrev vs (p q : Int) : Option Slot := some ⟨.val, true, .tup [.int p, .int q]⟩
abbrev dic (a b c : Int) : D := .lst [.int a, .int b, .int c]
abbrev di (a b c : Int) : Option Slot := some ⟨.own, true, dic a b c⟩
theorem fmod_lt {a b : Int} (h : 0 < b) : 0 ≤ a.fmod b ∧ a.fmod b < b := ⟨Int.fmod_nonneg_of_pos a h, Int.fmod_lt_of_pos a h⟩
theorem t_roll (a b c m : Int) (h : 0 < m) (h2 : m ≤ 100000000) : ∃ v a' b' c' : Int, 0 ≤ v ∧ v < m ∧ ∀ F : Fns, runDef F Pr.d_law_roll [di a b c, vi m] = .ret .val (.int v) [di a' b' c', vi m] := by
  have hd : divOk m = true := divOk_of h (by omega)
  have hm : m ≠ 0 := by omega
  have hm2 : ¬ 100000000 < m := by omega
  have k1 : mulOk a 48271 = true := mulOk_r (by decide)
  have k2 : mulOk b 69621 = true := mulOk_r (by decide)
  have k3 : divOk 7 = true := by decide
  by_cases c2 : c = 2
  · subst c2
    refine ⟨a.fmod m, a.fdiv m, b, 2, (fmod_lt h).1, (fmod_lt h).2, fun F => ?_⟩
    refine (def_rt (r' := [di (a.fdiv m) b 2, vi m, some ⟨.val, false, .int (a.fmod m)⟩]) rfl (sq_rt ?_)).trans (by rfl)
    simp [R.bind, R.bindS, lift, ltD, truD, runDef, entry, evS, retE, evE, evG, evT, evL, evA, evO, evF, evC, evSc, argE, opd, op1, op2, opL, res, resL, trans, tst, truO, getS, putS, newS, Ow.fl, binD, cmpD, cmpV, notD, negD, idxV, idxD, place, callR, refs, nodupN, argSlots, backArgs, outs, keepP, bindT, bindTs, varE, varT, setR, setD, biD, augR, augsR, itemR, augV, ownO, unlS, Pr.d_law_roll, evSs, peq, shal, hd, hm]
  · by_cases c1 : c = 1 ∧ 0 < a
    · obtain ⟨rfl, ha⟩ := c1
      refine ⟨a.fmod m, a.fdiv m, b, 1, (fmod_lt h).1, (fmod_lt h).2, fun F => ?_⟩
      refine (def_rt (r' := [di (a.fdiv m) b 1, vi m, some ⟨.val, false, .int (a.fmod m)⟩]) rfl (sq_rt ?_)).trans (by rfl)
      simp [R.bind, R.bindS, lift, ltD, truD, runDef, entry, evS, retE, evE, evG, evT, evL, evA, evO, evF, evC, evSc, argE, opd, op1, op2, opL, res, resL, trans, tst, truO, getS, putS, newS, Ow.fl, binD, cmpD, cmpV, notD, negD, idxV, idxD, place, callR, refs, nodupN, argSlots, backArgs, outs, keepP, bindT, bindTs, varE, varT, setR, setD, biD, augR, augsR, itemR, augV, ownO, unlS, Pr.d_law_roll, evSs, peq, shal, hd, hm, ha]
    · have e : ∀ F : Fns, evS F (Pr.d_law_roll.body.getD 0 .pass) [di a b c, vi m, none] = .nx [di a b c, vi m, none] := by
        intro F
        by_cases c1' : c = 1
        · have ha : ¬ 0 < a := fun z => c1 ⟨c1', z⟩
          subst c1'
          simp [R.bind, R.bindS, lift, ltD, truD, runDef, entry, evS, retE, evE, evG, evT, evL, evA, evO, evF, evC, evSc, argE, opd, op1, op2, opL, res, resL, trans, tst, truO, getS, putS, newS, Ow.fl, binD, cmpD, cmpV, notD, negD, idxV, idxD, place, callR, refs, nodupN, argSlots, backArgs, outs, keepP, bindT, bindTs, varE, varT, setR, setD, biD, augR, augsR, itemR, augV, ownO, unlS, Pr.d_law_roll, evSs, peq, shal, ha]
        · have b2 : (c == 2) = false := by simpa using c2
          have b1 : (c == 1) = false := by simpa using c1'
          simp [R.bind, R.bindS, lift, ltD, truD, runDef, entry, evS, retE, evE, evG, evT, evL, evA, evO, evF, evC, evSc, argE, opd, op1, op2, opL, res, resL, trans, tst, truO, getS, putS, newS, Ow.fl, binD, cmpD, cmpV, notD, negD, idxV, idxD, place, callR, refs, nodupN, argSlots, backArgs, outs, keepP, bindT, bindTs, varE, varT, setR, setD, biD, augR, augsR, itemR, augV, ownO, unlS, Pr.d_law_roll, evSs, peq, shal, b2, b1]
      have a1 : ∃ a1, a1 = (a * 48271 + b * 69621 + 11).fmod 2147483647 := ⟨_, rfl⟩
      obtain ⟨a1, ea⟩ := a1
      refine ⟨(a1.fdiv 7).fmod m, a1, b + 1, 0, (fmod_lt h).1, (fmod_lt h).2, fun F => ?_⟩
      refine (def_rt (v := .int ((a1.fdiv 7).fmod m)) (r' := [di a1 (b + 1) 0, vi m, none]) rfl ((sq_nx (e F)).trans ?_)).trans rfl
      simp [R.bind, R.bindS, lift, ltD, truD, runDef, entry, evS, retE, evE, evG, evT, evL, evA, evO, evF, evC, evSc, argE, opd, op1, op2, opL, res, resL, trans, tst, truO, getS, putS, newS, Ow.fl, binD, cmpD, cmpV, notD, negD, idxV, idxD, place, callR, refs, nodupN, argSlots, backArgs, outs, keepP, bindT, bindTs, varE, varT, setR, setD, biD, augR, augsR, itemR, augV, ownO, unlS, evSs, peq, shal, hm, hm2, k1, k2, k3, ← ea]
end VS.K1
end

section
set_option autoImplicit false
set_option linter.all false
namespace VS.K1
open VS
theorem abs_nat (i : Int) : (if i < 0 then -i else i) = (i.natAbs : Int) := by split <;> omega
theorem fmod_nat (a b : Nat) : (a : Int).fmod (b : Int) = ((a % b : Nat) : Int) := by
  rw [Int.fmod_eq_emod_of_nonneg _ (by omega)]
  rfl
variable {fuel : Nat}
abbrev C (fuel n j : Nat) (ps : Rho) : CR := callN Pr.prog fuel n j ps
theorem gcd_base (n a : Nat) : C fuel (n + 1) 17 [vi a, vi (0 : Nat)] = .ret .val (.int a) [vi a, vi (0 : Nat)] := by
  unfold C
  rw [callN_eq (d := Pr.d_law_gcd) rfl]
  refine (def_rt (r' := [vi a, vi (0 : Nat)]) rfl (sq_rt ?_)).trans rfl
  simp [R.bind, R.bindS, lift, ltD, truD, runDef, entry, evS, retE, evE, evG, evT, evL, evA, evO, evF, evC, evSc, argE, opd, op1, op2, opL, res, resL, trans, tst, truO, getS, putS, newS, Ow.fl, binD, cmpD, cmpV, notD, negD, idxV, idxD, place, callR, refs, nodupN, argSlots, backArgs, outs, keepP, bindT, bindTs, varE, varT, setR, setD, biD, augR, augsR, itemR, augV, ownO, unlS, Pr.d_law_gcd, peq, shal]
theorem gcd_step {n a b : Nat} {x : D} {o1 o2 : Option Slot} (hb : b ≠ 0) (h : C fuel n 17 [vi b, vi ((a % b : Nat) : Int)] = .ret .val x [o1, o2]) : C fuel (n + 1) 17 [vi a, vi b] = .ret .val x [vi a, vi b] := by
  unfold C at h ⊢
  rw [callN_eq (d := Pr.d_law_gcd) rfl]
  refine (def_rt (r' := [vi a, vi b]) rfl (sq_rt ?_)).trans rfl
  have e : ((b : Int) == 0) = false := by simpa using hb
  have e2 := fmod_nat a b
  have e3 : ((b : Int) = 0) = False := by simpa using hb
  simp [R.bind, R.bindS, lift, ltD, truD, runDef, entry, evS, retE, evE, evG, evT, evL, evA, evO, evF, evC, evSc, argE, opd, op1, op2, opL, res, resL, trans, tst, truO, getS, putS, newS, Ow.fl, binD, cmpD, cmpV, notD, negD, idxV, idxD, place, callR, refs, nodupN, argSlots, backArgs, outs, keepP, bindT, bindTs, varE, varT, setR, setD, biD, augR, augsR, itemR, augV, ownO, unlS, Pr.d_law_gcd, peq, shal, e, e2, e3, hb, h, - Int.natCast_emod]
theorem t_gcd : ∀ (k a b n : Nat), b < 2 ^ k → 2 * k + 1 ≤ n → C fuel n 17 [vi a, vi b] = .ret .val (.int (Nat.gcd a b : Nat)) [vi a, vi b]
  | 0, a, b, n, hb, hn => by
    obtain ⟨m, rfl⟩ : ∃ m, n = m + 1 := ⟨n - 1, by omega⟩
    have : b = 0 := by omega
    subst this
    rw [gcd_base, Nat.gcd_zero_right]
  | k + 1, a, b, n, hb, hn => by
    obtain ⟨m, rfl⟩ : ∃ m, n = m + 1 + 1 := ⟨n - 2, by omega⟩
    by_cases z : b = 0
    · subst z
      rw [gcd_base, Nat.gcd_zero_right]
    · by_cases z2 : a % b = 0
      · have h1 := gcd_base (fuel := fuel) m b
        rw [← z2] at h1
        rw [gcd_step z h1]
        have : Nat.gcd a b = b := by rw [Nat.gcd_comm, Nat.gcd_rec, z2, Nat.gcd_zero_left]
        rw [this]
      · have lt : b % (a % b) < 2 ^ k := by
          have h1 : a % b < b := Nat.mod_lt _ (Nat.pos_of_ne_zero z)
          have h2 : b % (a % b) < a % b := Nat.mod_lt _ (Nat.pos_of_ne_zero z2)
          have h3 : b = (a % b) * (b / (a % b)) + b % (a % b) := (Nat.div_add_mod _ _).symm
          have h4 : 1 ≤ b / (a % b) := Nat.div_pos (by omega) (Nat.pos_of_ne_zero z2)
          have h5 : (a % b) * 1 ≤ (a % b) * (b / (a % b)) := Nat.mul_le_mul_left _ h4
          have h6 : 2 ^ (k + 1) = 2 * 2 ^ k := by rw [Nat.pow_succ]; omega
          omega
        have h1 := t_gcd k (a % b) (b % (a % b)) m lt (by omega)
        have h2 := gcd_step z2 h1
        rw [gcd_step z h2]
        have : Nat.gcd (a % b) (b % (a % b)) = Nat.gcd a b := by
          rw [Nat.gcd_comm (a % b), ← Nat.gcd_rec, ← Nat.gcd_rec, Nat.gcd_comm]
        rw [this]
end VS.K1
end

section
set_option autoImplicit false
set_option linter.all false
namespace VS.K1
open VS
variable {fuel : Nat}
/-- lowest terms, the lower part positive -/
def red (a b : Int) : Int × Int := (((if 0 < b then 1 else -1) * a).fdiv (Int.gcd a b : Nat), ((if 0 < b then 1 else -1) * b).fdiv (Int.gcd a b : Nat))
abbrev rs (a b : Int) : D := .tup [.int (red a b).1, .int (red a b).2]
def lp (F : Fns) : Nat → Rho → SR := loopW (fun r1 => tst (.cmp .ne (.var 3) (.int 0)) (evE F (.cmp .ne (.var 3) (.int 0))) r1) (fun r1 => evSs F [.unp (.tup [(.nm 2),(.nm 3)]) (.tup [(.var 3),(.bin .mod (.var 2) (.var 3))])] r1)
theorem t_loop {F : Fns} {a b : Int} : ∀ (n l r : Nat) (p q : Bool), r < n → lp F n [vi a, vi b, some ⟨.val, p, .int l⟩, some ⟨.val, q, .int r⟩, none] = .nx (if r = 0 then [vi a, vi b, some ⟨.val, p, .int (Nat.gcd l r : Nat)⟩, some ⟨.val, q, .int 0⟩, none] else [vi a, vi b, some ⟨.val, false, .int (Nat.gcd l r : Nat)⟩, some ⟨.val, false, .int 0⟩, none])
  | 0, l, r, p, q, h => absurd h (Nat.not_lt_zero _)
  | n + 1, l, r, p, q, h => by
    by_cases z : r = 0
    · subst z
      unfold lp
      rw [lw_stop (r1 := [vi a, vi b, some ⟨.val, p, .int l⟩, some ⟨.val, q, .int (0 : Nat)⟩, none]) (by simp [R.bind, R.bindS, lift, ltD, truD, runDef, entry, evS, retE, evE, evG, evT, evL, evA, evO, evF, evC, evSc, argE, opd, op1, op2, opL, res, resL, trans, tst, truO, getS, putS, newS, Ow.fl, binD, cmpD, cmpV, notD, negD, idxV, idxD, place, callR, refs, nodupN, argSlots, backArgs, outs, keepP, bindT, bindTs, varE, varT, setR, setD, biD, augR, augsR, itemR, augV, ownO, unlS, peq, shal])]
      simp [R.bind, R.bindS, lift, ltD, truD, runDef, entry, evS, retE, evE, evG, evT, evL, evA, evO, evF, evC, evSc, argE, opd, op1, op2, opL, res, resL, trans, tst, truO, getS, putS, newS, Ow.fl, binD, cmpD, cmpV, notD, negD, idxV, idxD, place, callR, refs, nodupN, argSlots, backArgs, outs, keepP, bindT, bindTs, varE, varT, setR, setD, biD, augR, augsR, itemR, augV, ownO, unlS]
    · have e : ((r : Int) == 0) = false := by simpa using z
      have e3 : ((r : Int) = 0) = False := by simpa using z
      have ih := t_loop (F := F) (a := a) (b := b) n r (l % r) false false (by have := Nat.mod_lt l (Nat.pos_of_ne_zero z); omega)
      rw [if_neg z]
      unfold lp at ih ⊢
      rw [lw_go (r1 := [vi a, vi b, some ⟨.val, p, .int l⟩, some ⟨.val, q, .int r⟩, none]) (r' := [vi a, vi b, some ⟨.val, false, .int r⟩, some ⟨.val, false, .int (l % r : Nat)⟩, none]) (by simp [R.bind, R.bindS, lift, ltD, truD, runDef, entry, evS, retE, evE, evG, evT, evL, evA, evO, evF, evC, evSc, argE, opd, op1, op2, opL, res, resL, trans, tst, truO, getS, putS, newS, Ow.fl, binD, cmpD, cmpV, notD, negD, idxV, idxD, place, callR, refs, nodupN, argSlots, backArgs, outs, keepP, bindT, bindTs, varE, varT, setR, setD, biD, augR, augsR, itemR, augV, ownO, unlS, peq, shal, e]) (by simp [R.bind, R.bindS, lift, ltD, truD, runDef, entry, evS, retE, evE, evG, evT, evL, evA, evO, evF, evC, evSc, argE, opd, op1, op2, opL, res, resL, trans, tst, truO, getS, putS, newS, Ow.fl, binD, cmpD, cmpV, notD, negD, idxV, idxD, place, callR, refs, nodupN, argSlots, backArgs, outs, keepP, bindT, bindTs, varE, varT, setR, setD, biD, augR, augsR, itemR, augV, ownO, unlS, evSs, z, fmod_nat, - Int.natCast_emod]), ih]
      have : Nat.gcd r (l % r) = Nat.gcd l r := by rw [Nat.gcd_comm r, ← Nat.gcd_rec, Nat.gcd_comm]
      rw [this]
      split <;> rfl
theorem gcd_pos {a b : Int} (hb : b ≠ 0) : 0 < Int.gcd a b := Nat.pos_of_ne_zero fun z => hb (Int.gcd_eq_zero_iff.1 z).2
theorem gcd_le {a b : Int} (hb : b ≠ 0) : (Int.gcd a b : Int) ≤ b.natAbs := by
  have := Nat.le_of_dvd (by omega) (Nat.gcd_dvd_right a.natAbs b.natAbs)
  exact_mod_cast this
theorem t_share (n : Nat) {a b : Int} (hb : b ≠ 0) (h : b.natAbs < fuel) (h2 : b.natAbs < 2 ^ 63) : C fuel (n + 1) 0 [vi a, vi b] = .ret .val (rs a b) [vi a, vi b] := by
  unfold C
  rw [callN_eq (d := Pr.d_share) rfl]
  have e : (b == 0) = false := by simpa using hb
  have k1 : divOk (Int.gcd a b : Nat) = true := divOk_of (by have := gcd_pos (a := a) hb; omega) (by have := gcd_le (a := a) hb; omega)
  have k2 : mulOk (if 0 < b then 1 else -1) a = true := mulOk_l (by split <;> decide)
  have k3 : mulOk (if 0 < b then 1 else -1) b = true := mulOk_l (by split <;> decide)
  have key : ∀ (p q : Bool), ∃ p' q', lp ⟨callN Pr.prog fuel n, fun g => Pr.prog.glo[g]?, fuel, lamsOf ⟨callN Pr.prog fuel n, fun g => Pr.prog.glo[g]?, fuel, fun _ _ => .no⟩ Pr.d_share.lams⟩ fuel [vi a, vi b, some ⟨.val, p, .int a.natAbs⟩, some ⟨.val, q, .int b.natAbs⟩, none] = .nx [vi a, vi b, some ⟨.val, p', .int (Int.gcd a b : Nat)⟩, some ⟨.val, q', .int 0⟩, none] := by
    intro p q
    rw [t_loop _ _ _ _ _ h]
    by_cases z : b.natAbs = 0
    · rw [if_pos z]; exact ⟨p, q, rfl⟩
    · rw [if_neg z]; exact ⟨false, false, rfl⟩
  obtain ⟨p', q', key⟩ := key false false
  refine (def_rt (v := rs a b) (r' := [vi a, vi b, some ⟨.val, p', .int (Int.gcd a b : Nat)⟩, some ⟨.val, q', .int 0⟩, some ⟨.val, false, .int (if 0 < b then 1 else -1)⟩]) rfl ?_).trans rfl
  refine (sq_nx (r' := [vi a, vi b, none, none, none]) ?_).trans ?_
  · simp [R.bind, R.bindS, lift, ltD, truD, runDef, entry, evS, retE, evE, evG, evT, evL, evA, evO, evF, evC, evSc, argE, opd, op1, op2, opL, res, resL, trans, tst, truO, getS, putS, newS, Ow.fl, binD, cmpD, cmpV, notD, negD, idxV, idxD, place, callR, refs, nodupN, argSlots, backArgs, outs, keepP, bindT, bindTs, varE, varT, setR, setD, biD, augR, augsR, itemR, augV, ownO, unlS, Pr.d_share, evSs, peq, shal, e]
  refine (sq_nx (r' := [vi a, vi b, some ⟨.val, false, .int a.natAbs⟩, some ⟨.val, false, .int b.natAbs⟩, none]) ?_).trans ?_
  · simp [R.bind, R.bindS, lift, ltD, truD, runDef, entry, evS, retE, evE, evG, evT, evL, evA, evO, evF, evC, evSc, argE, opd, op1, op2, opL, res, resL, trans, tst, truO, getS, putS, newS, Ow.fl, binD, cmpD, cmpV, notD, negD, idxV, idxD, place, callR, refs, nodupN, argSlots, backArgs, outs, keepP, bindT, bindTs, varE, varT, setR, setD, biD, augR, augsR, itemR, augV, ownO, unlS, abs_nat]
  refine (sq_nx (r' := [vi a, vi b, some ⟨.val, p', .int (Int.gcd a b : Nat)⟩, some ⟨.val, q', .int 0⟩, none]) ?_).trans ?_
  · rw [evS]; exact key
  refine (sq_nx (r' := [vi a, vi b, some ⟨.val, p', .int (Int.gcd a b : Nat)⟩, some ⟨.val, q', .int 0⟩, some ⟨.val, false, .int (if 0 < b then 1 else -1)⟩]) ?_).trans ?_
  · by_cases z : 0 < b <;> simp [R.bind, R.bindS, lift, ltD, truD, runDef, entry, evS, retE, evE, evG, evT, evL, evA, evO, evF, evC, evSc, argE, opd, op1, op2, opL, res, resL, trans, tst, truO, getS, putS, newS, Ow.fl, binD, cmpD, cmpV, notD, negD, idxV, idxD, place, callR, refs, nodupN, argSlots, backArgs, outs, keepP, bindT, bindTs, varE, varT, setR, setD, biD, augR, augsR, itemR, augV, ownO, unlS, z]
  · refine sq_rt ?_
    simp [R.bind, R.bindS, lift, ltD, truD, runDef, entry, evS, retE, evE, evG, evT, evL, evA, evO, evF, evC, evSc, argE, opd, op1, op2, opL, res, resL, trans, tst, truO, getS, putS, newS, Ow.fl, binD, cmpD, cmpV, notD, negD, idxV, idxD, place, callR, refs, nodupN, argSlots, backArgs, outs, keepP, bindT, bindTs, varE, varT, setR, setD, biD, augR, augsR, itemR, augV, ownO, unlS, k1, k2, k3, red]
theorem t_share0 (n : Nat) {a : Int} : C fuel (n + 1) 0 [vi a, vi 0] = .ex 1 [vi a, vi 0] := by
  unfold C
  rw [callN_eq (d := Pr.d_share) rfl]
  refine (def_ex (r' := [vi a, vi 0, none, none, none]) rfl (sq_ex ?_)).trans rfl
  simp [R.bind, R.bindS, lift, ltD, truD, runDef, entry, evS, retE, evE, evG, evT, evL, evA, evO, evF, evC, evSc, argE, opd, op1, op2, opL, res, resL, trans, tst, truO, getS, putS, newS, Ow.fl, binD, cmpD, cmpV, notD, negD, idxV, idxD, place, callR, refs, nodupN, argSlots, backArgs, outs, keepP, bindT, bindTs, varE, varT, setR, setD, biD, augR, augsR, itemR, augV, ownO, unlS, Pr.d_share, evSs, peq, shal]
theorem t_lshare {n k : Nat} {a b : Int} (hb : b ≠ 0) (h : b.natAbs < 2 ^ k) (hk : 2 * k + 1 ≤ n) (h2 : b.natAbs < 2 ^ 63) : C fuel (n + 1) 18 [vi a, vi b] = .ret .val (rs a b) [vi a, vi b] := by
  have hg := t_gcd (fuel := fuel) k a.natAbs b.natAbs n h hk
  unfold C at hg ⊢
  rw [callN_eq (d := Pr.d_law_share) rfl]
  have k1 : divOk (Int.gcd a b : Nat) = true := divOk_of (by have := gcd_pos (a := a) hb; omega) (by have := gcd_le (a := a) hb; omega)
  have k2 : mulOk (if 0 < b then 1 else -1) a = true := mulOk_l (by split <;> decide)
  have k3 : mulOk (if 0 < b then 1 else -1) b = true := mulOk_l (by split <;> decide)
  refine (def_rt (v := rs a b) (r' := [vi a, vi b, some ⟨.val, false, .int (if 0 < b then 1 else -1)⟩, some ⟨.val, false, .int (Int.gcd a b : Nat)⟩]) rfl ?_).trans rfl
  refine (sq_nx (r' := [vi a, vi b, some ⟨.val, false, .int (if 0 < b then 1 else -1)⟩, none]) ?_).trans ?_
  · by_cases z : 0 < b
    · have : ¬ b < 0 := by omega
      simp [R.bind, R.bindS, lift, ltD, truD, runDef, entry, evS, retE, evE, evG, evT, evL, evA, evO, evF, evC, evSc, argE, opd, op1, op2, opL, res, resL, trans, tst, truO, getS, putS, newS, Ow.fl, binD, cmpD, cmpV, notD, negD, idxV, idxD, place, callR, refs, nodupN, argSlots, backArgs, outs, keepP, bindT, bindTs, varE, varT, setR, setD, biD, augR, augsR, itemR, augV, ownO, unlS, Pr.d_law_share, this, z]
    · have : b < 0 := by omega
      simp [R.bind, R.bindS, lift, ltD, truD, runDef, entry, evS, retE, evE, evG, evT, evL, evA, evO, evF, evC, evSc, argE, opd, op1, op2, opL, res, resL, trans, tst, truO, getS, putS, newS, Ow.fl, binD, cmpD, cmpV, notD, negD, idxV, idxD, place, callR, refs, nodupN, argSlots, backArgs, outs, keepP, bindT, bindTs, varE, varT, setR, setD, biD, augR, augsR, itemR, augV, ownO, unlS, Pr.d_law_share, this, z]
  refine (sq_nx (r' := [vi a, vi b, some ⟨.val, false, .int (if 0 < b then 1 else -1)⟩, some ⟨.val, false, .int (Int.gcd a b : Nat)⟩]) ?_).trans ?_
  · simp [R.bind, R.bindS, lift, ltD, truD, runDef, entry, evS, retE, evE, evG, evT, evL, evA, evO, evF, evC, evSc, argE, opd, op1, op2, opL, res, resL, trans, tst, truO, getS, putS, newS, Ow.fl, binD, cmpD, cmpV, notD, negD, idxV, idxD, place, callR, refs, nodupN, argSlots, backArgs, outs, keepP, bindT, bindTs, varE, varT, setR, setD, biD, augR, augsR, itemR, augV, ownO, unlS, abs_nat, hg]
    rfl
  · refine sq_rt ?_
    simp [R.bind, R.bindS, lift, ltD, truD, runDef, entry, evS, retE, evE, evG, evT, evL, evA, evO, evF, evC, evSc, argE, opd, op1, op2, opL, res, resL, trans, tst, truO, getS, putS, newS, Ow.fl, binD, cmpD, cmpV, notD, negD, idxV, idxD, place, callR, refs, nodupN, argSlots, backArgs, outs, keepP, bindT, bindTs, varE, varT, setR, setD, biD, augR, augsR, itemR, augV, ownO, unlS, k1, k2, k3, red]
end VS.K1
end

section
set_option autoImplicit false
set_option linter.all false
namespace VS.K1
open VS
variable {fuel n : Nat} {p q p' q' : Int}
def Sm (i : Int) : Prop := -(2 ^ 31) < i ∧ i < 2 ^ 31
theorem Sm.m {i j : Int} (h : Sm i) : mulOk i j = true := mulOk_l (by obtain ⟨a, b⟩ := h; constructor <;> omega)
theorem Sm.mr {i j : Int} (h : Sm j) : mulOk i j = true := mulOk_r (by obtain ⟨a, b⟩ := h; constructor <;> omega)
theorem Sm.two : Sm 2 := by constructor <;> decide
theorem Sm.mul {i j : Int} (h : Sm i) (h2 : Sm j) : (i * j).natAbs < 2 ^ 62 := by
  rw [Int.natAbs_mul]
  have a : i.natAbs < 2 ^ 31 := by obtain ⟨_, _⟩ := h; omega
  have b : j.natAbs < 2 ^ 31 := by obtain ⟨_, _⟩ := h2; omega
  calc i.natAbs * j.natAbs < 2 ^ 31 * 2 ^ 31 := Nat.mul_lt_mul'' a b
    _ = 2 ^ 62 := by decide
theorem Sm.mul0 {i j : Int} (h : i ≠ 0) (h2 : j ≠ 0) : i * j ≠ 0 := fun z => (Int.mul_eq_zero.1 z).elim h h2
abbrev FU : Nat := 2 ^ 62
theorem t_whole : C fuel (n + 1) 1 [vi p] = .ret .val (.tup [.int p, .int 1]) [vi p] := by
  unfold C
  rw [callN_eq (d := Pr.d_whole) rfl]
  refine (def_rt (r' := [vi p]) rfl (sq_rt ?_)).trans rfl
  simp [R.bind, R.bindS, lift, ltD, truD, runDef, entry, evS, retE, evE, evG, evT, evL, evA, evO, evF, evC, evSc, argE, opd, op1, op2, opL, res, resL, trans, tst, truO, getS, putS, newS, Ow.fl, binD, cmpD, cmpV, notD, negD, idxV, idxD, place, callR, refs, nodupN, argSlots, backArgs, outs, keepP, bindT, bindTs, varE, varT, setR, setD, biD, augR, augsR, itemR, augV, ownO, unlS, Pr.d_whole]
section
variable (hq : Sm q) (hp : Sm p) (hq' : Sm q') (hp' : Sm p') (z : q ≠ 0) (z' : q' ≠ 0)
include hq hp hq' hp' z z'
theorem t_plus : C FU (n + 2) 2 [vs p q, vs p' q'] = .ret .val (rs (p * q' + p' * q) (q * q')) [vs p q, vs p' q'] := by
  have h := t_share (fuel := FU) n (a := p * q' + p' * q) (Sm.mul0 z z') (hq.mul hq') (Nat.lt_trans (hq.mul hq') (by decide))
  unfold C at h ⊢
  rw [callN_eq (d := Pr.d_plus) rfl]
  refine (def_rt (r' := [vs p q, vs p' q']) rfl (sq_rt ?_)).trans rfl
  simp [R.bind, R.bindS, lift, ltD, truD, runDef, entry, evS, retE, evE, evG, evT, evL, evA, evO, evF, evC, evSc, argE, opd, op1, op2, opL, res, resL, trans, tst, truO, getS, putS, newS, Ow.fl, binD, cmpD, cmpV, notD, negD, idxV, idxD, place, callR, refs, nodupN, argSlots, backArgs, outs, keepP, bindT, bindTs, varE, varT, setR, setD, biD, augR, augsR, itemR, augV, ownO, unlS, Pr.d_plus, hp.m, hp'.m, hq.m, h]
theorem t_minus : C FU (n + 2) 3 [vs p q, vs p' q'] = .ret .val (rs (p * q' - p' * q) (q * q')) [vs p q, vs p' q'] := by
  have h := t_share (fuel := FU) n (a := p * q' - p' * q) (Sm.mul0 z z') (hq.mul hq') (Nat.lt_trans (hq.mul hq') (by decide))
  unfold C at h ⊢
  rw [callN_eq (d := Pr.d_minus) rfl]
  refine (def_rt (r' := [vs p q, vs p' q']) rfl (sq_rt ?_)).trans rfl
  simp [R.bind, R.bindS, lift, ltD, truD, runDef, entry, evS, retE, evE, evG, evT, evL, evA, evO, evF, evC, evSc, argE, opd, op1, op2, opL, res, resL, trans, tst, truO, getS, putS, newS, Ow.fl, binD, cmpD, cmpV, notD, negD, idxV, idxD, place, callR, refs, nodupN, argSlots, backArgs, outs, keepP, bindT, bindTs, varE, varT, setR, setD, biD, augR, augsR, itemR, augV, ownO, unlS, Pr.d_minus, hp.m, hp'.m, hq.m, h]
theorem t_times : C FU (n + 2) 4 [vs p q, vs p' q'] = .ret .val (rs (p * p') (q * q')) [vs p q, vs p' q'] := by
  have h := t_share (fuel := FU) n (a := p * p') (Sm.mul0 z z') (hq.mul hq') (Nat.lt_trans (hq.mul hq') (by decide))
  unfold C at h ⊢
  rw [callN_eq (d := Pr.d_times) rfl]
  refine (def_rt (r' := [vs p q, vs p' q']) rfl (sq_rt ?_)).trans rfl
  simp [R.bind, R.bindS, lift, ltD, truD, runDef, entry, evS, retE, evE, evG, evT, evL, evA, evO, evF, evC, evSc, argE, opd, op1, op2, opL, res, resL, trans, tst, truO, getS, putS, newS, Ow.fl, binD, cmpD, cmpV, notD, negD, idxV, idxD, place, callR, refs, nodupN, argSlots, backArgs, outs, keepP, bindT, bindTs, varE, varT, setR, setD, biD, augR, augsR, itemR, augV, ownO, unlS, Pr.d_times, hp.m, hp'.m, hq.m, h]
theorem t_parted : C FU (n + 2) 5 [vs p q, vs p' q'] = if p' = 0 then .ex 1 [vs p q, vs p' q'] else .ret .val (rs (p * q') (q * p')) [vs p q, vs p' q'] := by
  unfold C
  rw [callN_eq (d := Pr.d_parted) rfl]
  by_cases e : p' = 0
  · subst e
    rw [if_pos rfl]
    refine (def_ex (r' := [vs p q, vs 0 q']) rfl (sq_ex ?_)).trans rfl
    simp [R.bind, R.bindS, lift, ltD, truD, runDef, entry, evS, retE, evE, evG, evT, evL, evA, evO, evF, evC, evSc, argE, opd, op1, op2, opL, res, resL, trans, tst, truO, getS, putS, newS, Ow.fl, binD, cmpD, cmpV, notD, negD, idxV, idxD, place, callR, refs, nodupN, argSlots, backArgs, outs, keepP, bindT, bindTs, varE, varT, setR, setD, biD, augR, augsR, itemR, augV, ownO, unlS, Pr.d_parted, peq, shal, evSs]
  · rw [if_neg e]
    have h := t_share (fuel := FU) n (a := p * q') (Sm.mul0 z e) (hq.mul hp') (Nat.lt_trans (hq.mul hp') (by decide))
    unfold C at h
    have e2 : (p' == 0) = false := by simpa using e
    refine (def_rt (r' := [vs p q, vs p' q']) rfl ((sq_nx (r' := [vs p q, vs p' q']) ?_).trans (sq_rt ?_))).trans rfl
    · simp [R.bind, R.bindS, lift, ltD, truD, runDef, entry, evS, retE, evE, evG, evT, evL, evA, evO, evF, evC, evSc, argE, opd, op1, op2, opL, res, resL, trans, tst, truO, getS, putS, newS, Ow.fl, binD, cmpD, cmpV, notD, negD, idxV, idxD, place, callR, refs, nodupN, argSlots, backArgs, outs, keepP, bindT, bindTs, varE, varT, setR, setD, biD, augR, augsR, itemR, augV, ownO, unlS, Pr.d_parted, peq, shal, evSs, e2]
    · simp [R.bind, R.bindS, lift, ltD, truD, runDef, entry, evS, retE, evE, evG, evT, evL, evA, evO, evF, evC, evSc, argE, opd, op1, op2, opL, res, resL, trans, tst, truO, getS, putS, newS, Ow.fl, binD, cmpD, cmpV, notD, negD, idxV, idxD, place, callR, refs, nodupN, argSlots, backArgs, outs, keepP, bindT, bindTs, varE, varT, setR, setD, biD, augR, augsR, itemR, augV, ownO, unlS, hp.m, hp'.m, hq.m, h]
theorem t_less : C fuel (n + 1) 6 [vs p q, vs p' q'] = .ret .val (.bl (decide (p * q' < p' * q))) [vs p q, vs p' q'] := by
  unfold C
  rw [callN_eq (d := Pr.d_is_less) rfl]
  refine (def_rt (r' := [vs p q, vs p' q']) rfl (sq_rt ?_)).trans rfl
  simp [R.bind, R.bindS, lift, ltD, truD, runDef, entry, evS, retE, evE, evG, evT, evL, evA, evO, evF, evC, evSc, argE, opd, op1, op2, opL, res, resL, trans, tst, truO, getS, putS, newS, Ow.fl, binD, cmpD, cmpV, notD, negD, idxV, idxD, place, callR, refs, nodupN, argSlots, backArgs, outs, keepP, bindT, bindTs, varE, varT, setR, setD, biD, augR, augsR, itemR, augV, ownO, unlS, Pr.d_is_less, hp.m, hp'.m]
theorem t_lless : C fuel (n + 1) 21 [vs p q, vs p' q'] = .ret .val (.bl (decide (p * q' < p' * q))) [vs p q, vs p' q'] := by
  unfold C
  rw [callN_eq (d := Pr.d_law_less) rfl]
  refine (def_rt (r' := [vs p q, vs p' q']) rfl (sq_rt ?_)).trans rfl
  simp [R.bind, R.bindS, lift, ltD, truD, runDef, entry, evS, retE, evE, evG, evT, evL, evA, evO, evF, evC, evSc, argE, opd, op1, op2, opL, res, resL, trans, tst, truO, getS, putS, newS, Ow.fl, binD, cmpD, cmpV, notD, negD, idxV, idxD, place, callR, refs, nodupN, argSlots, backArgs, outs, keepP, bindT, bindTs, varE, varT, setR, setD, biD, augR, augsR, itemR, augV, ownO, unlS, Pr.d_law_less, hp.m, hp'.m]
theorem t_ladd (hn : (q * q').natAbs < 2 ^ 28) (hm : 58 ≤ n) : C FU (n + 1) 19 [vs p q, vs p' q'] = .ret .val (rs (p * q' + p' * q) (q * q')) [vs p q, vs p' q'] := by
  obtain ⟨m, rfl⟩ : ∃ m, n = m + 1 := ⟨n - 1, by omega⟩
  have h := t_lshare (fuel := FU) (n := m) (k := 28) (a := p * q' + p' * q) (Sm.mul0 z z') hn (by omega) (Nat.lt_trans (hq.mul hq') (by decide))
  unfold C at h ⊢
  rw [callN_eq (d := Pr.d_law_add) rfl]
  refine (def_rt (r' := [vs p q, vs p' q']) rfl (sq_rt ?_)).trans rfl
  simp [R.bind, R.bindS, lift, ltD, truD, runDef, entry, evS, retE, evE, evG, evT, evL, evA, evO, evF, evC, evSc, argE, opd, op1, op2, opL, res, resL, trans, tst, truO, getS, putS, newS, Ow.fl, binD, cmpD, cmpV, notD, negD, idxV, idxD, place, callR, refs, nodupN, argSlots, backArgs, outs, keepP, bindT, bindTs, varE, varT, setR, setD, biD, augR, augsR, itemR, augV, ownO, unlS, Pr.d_law_add, hp.m, hp'.m, hq.m, h]
theorem t_lmul (hn : (q * q').natAbs < 2 ^ 28) (hm : 58 ≤ n) : C FU (n + 1) 20 [vs p q, vs p' q'] = .ret .val (rs (p * p') (q * q')) [vs p q, vs p' q'] := by
  obtain ⟨m, rfl⟩ : ∃ m, n = m + 1 := ⟨n - 1, by omega⟩
  have h := t_lshare (fuel := FU) (n := m) (k := 28) (a := p * p') (Sm.mul0 z z') hn (by omega) (Nat.lt_trans (hq.mul hq') (by decide))
  unfold C at h ⊢
  rw [callN_eq (d := Pr.d_law_mul) rfl]
  refine (def_rt (r' := [vs p q, vs p' q']) rfl (sq_rt ?_)).trans rfl
  simp [R.bind, R.bindS, lift, ltD, truD, runDef, entry, evS, retE, evE, evG, evT, evL, evA, evO, evF, evC, evSc, argE, opd, op1, op2, opL, res, resL, trans, tst, truO, getS, putS, newS, Ow.fl, binD, cmpD, cmpV, notD, negD, idxV, idxD, place, callR, refs, nodupN, argSlots, backArgs, outs, keepP, bindT, bindTs, varE, varT, setR, setD, biD, augR, augsR, itemR, augV, ownO, unlS, Pr.d_law_mul, hp.m, hp'.m, hq.m, h]
end
section
variable (hq : Sm q) (z : 0 < q)
include hq z
theorem Sm.dv : divOk q = true := divOk_of z (by obtain ⟨a, b⟩ := hq; omega)
theorem t_below : C fuel (n + 1) 7 [vs p q] = .ret .val (.int (p.fdiv q)) [vs p q] := by
  unfold C
  rw [callN_eq (d := Pr.d_below) rfl]
  refine (def_rt (r' := [vs p q]) rfl (sq_rt ?_)).trans rfl
  simp [R.bind, R.bindS, lift, ltD, truD, runDef, entry, evS, retE, evE, evG, evT, evL, evA, evO, evF, evC, evSc, argE, opd, op1, op2, opL, res, resL, trans, tst, truO, getS, putS, newS, Ow.fl, binD, cmpD, cmpV, notD, negD, idxV, idxD, place, callR, refs, nodupN, argSlots, backArgs, outs, keepP, bindT, bindTs, varE, varT, setR, setD, biD, augR, augsR, itemR, augV, ownO, unlS, Pr.d_below, Sm.dv hq z]
theorem t_above : C fuel (n + 1) 8 [vs p q] = .ret .val (.int (0 - (0 - p).fdiv q)) [vs p q] := by
  unfold C
  rw [callN_eq (d := Pr.d_above) rfl]
  refine (def_rt (r' := [vs p q]) rfl (sq_rt ?_)).trans rfl
  simp [R.bind, R.bindS, lift, ltD, truD, runDef, entry, evS, retE, evE, evG, evT, evL, evA, evO, evF, evC, evSc, argE, opd, op1, op2, opL, res, resL, trans, tst, truO, getS, putS, newS, Ow.fl, binD, cmpD, cmpV, notD, negD, idxV, idxD, place, callR, refs, nodupN, argSlots, backArgs, outs, keepP, bindT, bindTs, varE, varT, setR, setD, biD, augR, augsR, itemR, augV, ownO, unlS, Pr.d_above, Sm.dv hq z]
theorem t_nearest : C fuel (n + 1) 9 [vs p q] = .ret .val (.int ((2 * p + q).fdiv (2 * q))) [vs p q] := by
  unfold C
  rw [callN_eq (d := Pr.d_nearest) rfl]
  refine (def_rt (r' := [vs p q]) rfl (sq_rt ?_)).trans rfl
  have : divOk (2 * q) = true := divOk_of (by omega) (by obtain ⟨a, b⟩ := hq; omega)
  simp [R.bind, R.bindS, lift, ltD, truD, runDef, entry, evS, retE, evE, evG, evT, evL, evA, evO, evF, evC, evSc, argE, opd, op1, op2, opL, res, resL, trans, tst, truO, getS, putS, newS, Ow.fl, binD, cmpD, cmpV, notD, negD, idxV, idxD, place, callR, refs, nodupN, argSlots, backArgs, outs, keepP, bindT, bindTs, varE, varT, setR, setD, biD, augR, augsR, itemR, augV, ownO, unlS, Pr.d_nearest, this, Sm.two.m]
end
/-- ints as texts are short -/
theorem digits_len : ∀ (f n : Nat) (acc : List Nat), (digitsF f n acc).length ≤ f + acc.length
  | 0, n, acc => by simp [R.bind, R.bindS, lift, ltD, truD, runDef, entry, evS, retE, evE, evG, evT, evL, evA, evO, evF, evC, evSc, argE, opd, op1, op2, opL, res, resL, trans, tst, truO, getS, putS, newS, Ow.fl, binD, cmpD, cmpV, notD, negD, idxV, idxD, place, callR, refs, nodupN, argSlots, backArgs, outs, keepP, bindT, bindTs, varE, varT, setR, setD, biD, augR, augsR, itemR, augV, ownO, unlS, digitsF]
  | f + 1, n, acc => by
    unfold digitsF
    split
    · simp [R.bind, R.bindS, lift, ltD, truD, runDef, entry, evS, retE, evE, evG, evT, evL, evA, evO, evF, evC, evSc, argE, opd, op1, op2, opL, res, resL, trans, tst, truO, getS, putS, newS, Ow.fl, binD, cmpD, cmpV, notD, negD, idxV, idxD, place, callR, refs, nodupN, argSlots, backArgs, outs, keepP, bindT, bindTs, varE, varT, setR, setD, biD, augR, augsR, itemR, augV, ownO, unlS]; omega
    · have := digits_len f (n / 10) ((48 + n % 10) :: acc)
      simp [R.bind, R.bindS, lift, ltD, truD, runDef, entry, evS, retE, evE, evG, evT, evL, evA, evO, evF, evC, evSc, argE, opd, op1, op2, opL, res, resL, trans, tst, truO, getS, putS, newS, Ow.fl, binD, cmpD, cmpV, notD, negD, idxV, idxD, place, callR, refs, nodupN, argSlots, backArgs, outs, keepP, bindT, bindTs, varE, varT, setR, setD, biD, augR, augsR, itemR, augV, ownO, unlS] at this
      omega
theorem intText_len {i : Int} (h : i.natAbs < 1000) : (intText i).length ≤ 1002 := by
  unfold intText natText
  have := digits_len (i.natAbs + 1) i.natAbs []
  split <;> simp [R.bind, R.bindS, lift, ltD, truD, runDef, entry, evS, retE, evE, evG, evT, evL, evA, evO, evF, evC, evSc, argE, opd, op1, op2, opL, res, resL, trans, tst, truO, getS, putS, newS, Ow.fl, binD, cmpD, cmpV, notD, negD, idxV, idxD, place, callR, refs, nodupN, argSlots, backArgs, outs, keepP, bindT, bindTs, varE, varT, setR, setD, biD, augR, augsR, itemR, augV, ownO, unlS] at * <;> omega
theorem log_ok {i : Int} (h : i.natAbs < 1000) : i.natAbs.log2 < 1920 := by
  by_cases z : i.natAbs = 0
  · rw [z]; decide
  · have := (Nat.log2_lt (k := 64) z).2 (by omega)
    omega
def tsh (p q : Int) : List Nat := intText p ++ if q = 1 then [] else 58 :: intText q
theorem t_told (h1 : p.natAbs < 1000) (h2 : q.natAbs < 1000) : C fuel (n + 1) 11 [vs p q] = .ret .val (.str (tsh p q)) [vs p q] := by
  unfold C
  rw [callN_eq (d := Pr.d_told_share) rfl]
  refine (def_rt (r' := [vs p q]) rfl (sq_rt ?_)).trans rfl
  have l1 := intText_len h1
  have l2 := intText_len h2
  have f1 : few (intText p).length = true := few_of (by omega)
  have f2 : few (1 + (intText q).length) = true := few_of (by omega)
  have f3 : few ((intText p).length + ((intText q).length + 1)) = true := few_of (by omega)
  by_cases e : q = 1
  · subst e
    simp [R.bind, R.bindS, lift, ltD, truD, runDef, entry, evS, retE, evE, evG, evT, evL, evA, evO, evF, evC, evSc, argE, opd, op1, op2, opL, res, resL, trans, tst, truO, getS, putS, newS, Ow.fl, binD, cmpD, cmpV, notD, negD, idxV, idxD, place, callR, refs, nodupN, argSlots, backArgs, outs, keepP, bindT, bindTs, varE, varT, setR, setD, biD, augR, augsR, itemR, augV, ownO, unlS, Pr.d_told_share, peq, shal, fmtD, log_ok h1, f1, tsh]
  · have e2 : (q == 1) = false := by simpa using e
    have f0 : few 1 = true := by decide
    simp [R.bind, R.bindS, lift, ltD, truD, runDef, entry, evS, retE, evE, evG, evT, evL, evA, evO, evF, evC, evSc, argE, opd, op1, op2, opL, res, resL, trans, tst, truO, getS, putS, newS, Ow.fl, binD, cmpD, cmpV, notD, negD, idxV, idxD, place, callR, refs, nodupN, argSlots, backArgs, outs, keepP, bindT, bindTs, varE, varT, setR, setD, biD, augR, augsR, itemR, augV, ownO, unlS, Pr.d_told_share, peq, shal, fmtD, log_ok h1, log_ok h2, f0, f1, f2, f3, tsh, e, e2]
end VS.K1
end

section
set_option autoImplicit false
set_option linter.all false
namespace VS.K1
open VS
variable {fuel n : Nat} {p q p' q' : Int}
theorem c_roll (a b c m : Int) (h : 0 < m) (h2 : m ≤ 100000000) : ∃ v a' b' c' : Int, 0 ≤ v ∧ v < m ∧ ∀ n, C FU (n + 1) 14 [di a b c, vi m] = .ret .val (.int v) [di a' b' c', vi m] := by
  obtain ⟨v, a', b', c', h3, h4, e1⟩ := t_roll a b c m h h2
  refine ⟨v, a', b', c', h3, h4, fun n => ?_⟩
  unfold C
  rw [callN_eq (d := Pr.d_law_roll) rfl]
  exact e1 _
theorem t_dice (n : Nat) (x : Int) : ∃ a b c : Int, C fuel (n + 1) 13 [vi x] = .ret .own (dic a b c) [vi x] := by
  unfold C
  rw [callN_eq (d := Pr.d_law_dice) rfl]
  by_cases h1 : -10 < x ∧ x < 10
  · refine ⟨_, _, _, (def_rt (v := dic (x.natAbs) 0 2) (r' := [vi x]) rfl (sq_rt ?_)).trans rfl⟩
    simp [R.bind, R.bindS, lift, ltD, truD, runDef, entry, evS, retE, evE, evG, evT, evL, evA, evO, evF, evC, evSc, argE, opd, op1, op2, opL, res, resL, trans, tst, truO, getS, putS, newS, Ow.fl, binD, cmpD, cmpV, notD, negD, idxV, idxD, place, callR, refs, nodupN, argSlots, backArgs, outs, keepP, bindT, bindTs, varE, varT, setR, setD, biD, augR, augsR, itemR, augV, ownO, unlS, Pr.d_law_dice, evSs, h1.1, h1.2, abs_nat]
  · refine ⟨_, _, _, (def_rt (v := dic x (1 + x.fmod 1009) (if 10 ^ 18 ≤ x then 1 else 0)) (r' := [vi x]) rfl ((sq_nx (r' := [vi x]) ?_).trans (sq_rt ?_))).trans rfl⟩
    · by_cases h2 : -10 < x
      · have h3 : ¬ x < 10 := fun z => h1 ⟨h2, z⟩
        simp [R.bind, R.bindS, lift, ltD, truD, runDef, entry, evS, retE, evE, evG, evT, evL, evA, evO, evF, evC, evSc, argE, opd, op1, op2, opL, res, resL, trans, tst, truO, getS, putS, newS, Ow.fl, binD, cmpD, cmpV, notD, negD, idxV, idxD, place, callR, refs, nodupN, argSlots, backArgs, outs, keepP, bindT, bindTs, varE, varT, setR, setD, biD, augR, augsR, itemR, augV, ownO, unlS, Pr.d_law_dice, evSs, h2, h3]
      · simp [R.bind, R.bindS, lift, ltD, truD, runDef, entry, evS, retE, evE, evG, evT, evL, evA, evO, evF, evC, evSc, argE, opd, op1, op2, opL, res, resL, trans, tst, truO, getS, putS, newS, Ow.fl, binD, cmpD, cmpV, notD, negD, idxV, idxD, place, callR, refs, nodupN, argSlots, backArgs, outs, keepP, bindT, bindTs, varE, varT, setR, setD, biD, augR, augsR, itemR, augV, ownO, unlS, Pr.d_law_dice, evSs, h2]
    · by_cases h2 : (10 : Int) ^ 18 ≤ x
      · simp [R.bind, R.bindS, lift, ltD, truD, runDef, entry, evS, retE, evE, evG, evT, evL, evA, evO, evF, evC, evSc, argE, opd, op1, op2, opL, res, resL, trans, tst, truO, getS, putS, newS, Ow.fl, binD, cmpD, cmpV, notD, negD, idxV, idxD, place, callR, refs, nodupN, argSlots, backArgs, outs, keepP, bindT, bindTs, varE, varT, setR, setD, biD, augR, augsR, itemR, augV, ownO, unlS, h2]
      · simp [R.bind, R.bindS, lift, ltD, truD, runDef, entry, evS, retE, evE, evG, evT, evL, evA, evO, evF, evC, evSc, argE, opd, op1, op2, opL, res, resL, trans, tst, truO, getS, putS, newS, Ow.fl, binD, cmpD, cmpV, notD, negD, idxV, idxD, place, callR, refs, nodupN, argSlots, backArgs, outs, keepP, bindT, bindTs, varE, varT, setR, setD, biD, augR, augsR, itemR, augV, ownO, unlS, h2]
abbrev scr (ns : List Int) : Option Slot := some ⟨.val, true, .lst (ns.map D.int)⟩
theorem t_rounds (n : Nat) (ns : List Int) : ∃ (a b c : Int), C fuel (n + 2) 15 [scr ns, vi 1] = .ret .one (.lst [dic a b c]) [scr ns, vi 1] := by
  have key : ∃ x : Int, evSs ⟨callN Pr.prog fuel (n + 1), fun g => Pr.prog.glo[g]?, fuel, lamsOf ⟨callN Pr.prog fuel (n + 1), fun g => Pr.prog.glo[g]?, fuel, fun _ _ => .no⟩ Pr.d_law_rounds.lams⟩ Pr.d_law_rounds.body [scr ns, vi 1, none, none] =
      evSs ⟨callN Pr.prog fuel (n + 1), fun g => Pr.prog.glo[g]?, fuel, lamsOf ⟨callN Pr.prog fuel (n + 1), fun g => Pr.prog.glo[g]?, fuel, fun _ _ => .no⟩ Pr.d_law_rounds.lams⟩ [.ret (.lc1 (.call 13 [(.var 3)]) 3 (.ex (.var 2)))] [scr ns, vi 1, some ⟨.own, false, .lst [.int x]⟩, none] := by
    cases ns with
    | nil =>
      refine ⟨0, ?_⟩
      refine (sq_nx (r' := [scr [], vi 1, some ⟨.own, false, .lst []⟩, none]) ?_).trans ?_
      · simp [R.bind, R.bindS, lift, ltD, truD, runDef, entry, evS, retE, evE, evG, evT, evL, evA, evO, evF, evC, evSc, argE, opd, op1, op2, opL, res, resL, trans, tst, truO, getS, putS, newS, Ow.fl, binD, cmpD, cmpV, notD, negD, idxV, idxD, place, callR, refs, nodupN, argSlots, backArgs, outs, keepP, bindT, bindTs, varE, varT, setR, setD, biD, augR, augsR, itemR, augV, ownO, unlS, partE, isNonE, slcD, slice, cutTo]
      refine (sq_nx (r' := [scr [], vi 1, some ⟨.own, false, .lst [.int 0]⟩, none]) ?_).trans rfl
      simp [R.bind, R.bindS, lift, ltD, truD, runDef, entry, evS, retE, evE, evG, evT, evL, evA, evO, evF, evC, evSc, argE, opd, op1, op2, opL, res, resL, trans, tst, truO, getS, putS, newS, Ow.fl, binD, cmpD, cmpV, notD, negD, idxV, idxD, place, callR, refs, nodupN, argSlots, backArgs, outs, keepP, bindT, bindTs, varE, varT, setR, setD, biD, augR, augsR, itemR, augV, ownO, unlS, evSs, shal, peq, peqL]
    | cons x ns =>
      refine ⟨x, ?_⟩
      refine (sq_nx (r' := [scr (x :: ns), vi 1, some ⟨.own, false, .lst [.int x]⟩, none]) ?_).trans ?_
      · have : min 1 (ns.length + 1) = 1 := by omega
        simp [R.bind, R.bindS, lift, ltD, truD, runDef, entry, evS, retE, evE, evG, evT, evL, evA, evO, evF, evC, evSc, argE, opd, op1, op2, opL, res, resL, trans, tst, truO, getS, putS, newS, Ow.fl, binD, cmpD, cmpV, notD, negD, idxV, idxD, place, callR, refs, nodupN, argSlots, backArgs, outs, keepP, bindT, bindTs, varE, varT, setR, setD, biD, augR, augsR, itemR, augV, ownO, unlS, partE, isNonE, slcD, slice, cutTo, this]
      refine (sq_nx (r' := [scr (x :: ns), vi 1, some ⟨.own, false, .lst [.int x]⟩, none]) ?_).trans rfl
      simp [R.bind, R.bindS, lift, ltD, truD, runDef, entry, evS, retE, evE, evG, evT, evL, evA, evO, evF, evC, evSc, argE, opd, op1, op2, opL, res, resL, trans, tst, truO, getS, putS, newS, Ow.fl, binD, cmpD, cmpV, notD, negD, idxV, idxD, place, callR, refs, nodupN, argSlots, backArgs, outs, keepP, bindT, bindTs, varE, varT, setR, setD, biD, augR, augsR, itemR, augV, ownO, unlS, evSs, shal, peq, peqL]
  obtain ⟨x, key⟩ := key
  obtain ⟨a, b, c, hd⟩ := t_dice (fuel := fuel) n x
  unfold C at hd ⊢
  rw [callN_eq (d := Pr.d_law_rounds) rfl]
  refine ⟨a, b, c, (def_rt (v := .lst [dic a b c]) (r' := [scr ns, vi 1, some ⟨.own, false, .lst [.int x]⟩, none]) rfl (key.trans (sq_rt ?_))).trans rfl⟩
  simp [R.bind, R.bindS, lift, ltD, truD, runDef, entry, evS, retE, evE, evG, evT, evL, evA, evO, evF, evC, evSc, argE, opd, op1, op2, opL, res, resL, trans, tst, truO, getS, putS, newS, Ow.fl, binD, cmpD, cmpV, notD, negD, idxV, idxD, place, callR, refs, nodupN, argSlots, backArgs, outs, keepP, bindT, bindTs, varE, varT, setR, setD, biD, augR, augsR, itemR, augV, ownO, unlS, seqD, inScope, namesT, saveAll, wipeAll, lendAll, oneC, hd, backAll, unlend]
theorem t_one (a b c : Int) : ∃ u v a' b' c' : Int, (0 ≤ u ∧ u < 41) ∧ (0 ≤ v ∧ v < 12) ∧ ∀ n, 58 ≤ n → C FU (n + 1) 22 [di a b c] = .ret .val (rs (u - 20) (1 + v)) [di a' b' c'] := by
  obtain ⟨u, a1, b1, c1, h1, h2, e1⟩ := c_roll a b c 41 (by decide) (by decide)
  obtain ⟨v, a2, b2, c2, h3, h4, e2⟩ := c_roll a1 b1 c1 12 (by decide) (by decide)
  refine ⟨u, v, a2, b2, c2, ⟨h1, h2⟩, ⟨h3, h4⟩, fun n hn => ?_⟩
  obtain ⟨m, rfl⟩ : ∃ m, n = m + 1 := ⟨n - 1, by omega⟩
  have h := t_lshare (fuel := FU) (n := m) (k := 28) (a := u - 20) (b := 1 + v) (by omega) (by omega) (by omega) (by omega)
  have e1 := e1 m
  have e2 := e2 m
  unfold C at h e1 e2 ⊢
  rw [callN_eq (d := Pr.d_law_one) rfl]
  refine (def_rt (r' := [di a2 b2 c2]) rfl (sq_rt ?_)).trans rfl
  simp [R.bind, R.bindS, lift, ltD, truD, runDef, entry, evS, retE, evE, evG, evT, evL, evA, evO, evF, evC, evSc, argE, opd, op1, op2, opL, res, resL, trans, tst, truO, getS, putS, newS, Ow.fl, binD, cmpD, cmpV, notD, negD, idxV, idxD, place, callR, refs, nodupN, argSlots, backArgs, outs, keepP, bindT, bindTs, varE, varT, setR, setD, biD, augR, augsR, itemR, augV, ownO, unlS, Pr.d_law_one, e1, e2, h]
end VS.K1
end

section
set_option autoImplicit false
set_option linter.all false
namespace VS.K1
open VS
/-! red: lowest terms -/
theorem fdiv_exact {x g : Int} (hg : g ≠ 0) (h : g ∣ x) : x.fdiv g * g = x := by
  obtain ⟨c, rfl⟩ := h
  rw [Int.mul_fdiv_cancel_left _ hg, Int.mul_comm]
/-- g, the two parts -/
theorem red_ex {a b : Int} (hb : b ≠ 0) : ∃ g : Int, 0 < g ∧ (red a b).1 * g = (if 0 < b then 1 else -1) * a ∧ (red a b).2 * g = (if 0 < b then 1 else -1) * b ∧ 0 < (red a b).2 ∧ Int.gcd (red a b).1 (red a b).2 = 1 := by
  have hp := gcd_pos (a := a) hb
  have g0 : ((Int.gcd a b : Nat) : Int) ≠ 0 := by omega
  have d1 : ((Int.gcd a b : Nat) : Int) ∣ (if 0 < b then 1 else -1) * a := Int.dvd_trans (Int.gcd_dvd_left _ _) (Int.dvd_mul_left _ _)
  have d2 : ((Int.gcd a b : Nat) : Int) ∣ (if 0 < b then 1 else -1) * b := Int.dvd_trans (Int.gcd_dvd_right _ _) (Int.dvd_mul_left _ _)
  have e1 : (red a b).1 * (Int.gcd a b : Nat) = (if 0 < b then 1 else -1) * a := fdiv_exact g0 d1
  have e2 : (red a b).2 * (Int.gcd a b : Nat) = (if 0 < b then 1 else -1) * b := fdiv_exact g0 d2
  have pos : 0 < (red a b).2 * (Int.gcd a b : Nat) := by
    rw [e2]
    split <;> omega
  refine ⟨(Int.gcd a b : Nat), by omega, e1, e2, ?_, ?_⟩
  · refine Int.not_le.1 fun h => ?_
    have := Int.mul_le_mul_of_nonneg_right h (c := (Int.gcd a b : Nat)) (by omega)
    omega
  · have q1 : Int.gcd ((red a b).1 * (Int.gcd a b : Nat)) ((red a b).2 * (Int.gcd a b : Nat)) = Int.gcd (red a b).1 (red a b).2 * Int.gcd a b := by
      rw [Int.gcd_mul_right]
      rfl
    rw [e1, e2] at q1
    have q2 : Int.gcd ((if 0 < b then 1 else -1) * a) ((if 0 < b then 1 else -1) * b) = Int.gcd a b := by
      split
      · rw [Int.one_mul, Int.one_mul]
      · rw [Int.neg_mul, Int.neg_mul, Int.one_mul, Int.one_mul, Int.gcd_neg, Int.neg_gcd]
    rw [q2] at q1
    exact (Nat.eq_of_mul_eq_mul_right hp (by rw [Nat.one_mul]; exact q1)).symm
/-- lowest terms -/
def Low (s : Int × Int) : Prop := 0 < s.2 ∧ Int.gcd s.1 s.2 = 1
theorem low_eq {s t : Int × Int} (hs : Low s) (ht : Low t) (h : s.1 * t.2 = t.1 * s.2) : s = t := by
  have hn : s.1.natAbs * t.2.natAbs = t.1.natAbs * s.2.natAbs := by rw [← Int.natAbs_mul, ← Int.natAbs_mul, h]
  have d1 : s.2.natAbs ∣ t.2.natAbs := Nat.Coprime.dvd_of_dvd_mul_left (k := s.2.natAbs) (m := s.1.natAbs) (Nat.Coprime.symm hs.2) ⟨t.1.natAbs, by rw [hn, Nat.mul_comm]⟩
  have d2 : t.2.natAbs ∣ s.2.natAbs := Nat.Coprime.dvd_of_dvd_mul_left (k := t.2.natAbs) (m := t.1.natAbs) (Nat.Coprime.symm ht.2) ⟨s.1.natAbs, by rw [← hn, Nat.mul_comm]⟩
  have e := Nat.dvd_antisymm d1 d2
  have h1 := hs.1
  have h2 := ht.1
  have e2 : s.2 = t.2 := by omega
  have e1 : s.1 = t.1 := by
    rw [← e2] at h
    exact Int.eq_of_mul_eq_mul_right (by omega) h
  exact Prod.ext e1 e2
theorem red_low {a b : Int} (hb : b ≠ 0) : Low (red a b) := let ⟨_, _, _, _, h1, h2⟩ := red_ex (a := a) hb; ⟨h1, h2⟩
theorem red_val {a b : Int} (hb : b ≠ 0) : (red a b).1 * b = a * (red a b).2 := by
  obtain ⟨g, g0, e1, e2, _, _⟩ := red_ex (a := a) hb
  generalize (red a b).1 = x at *
  generalize (red a b).2 = y at *
  have s0 : (if 0 < b then (1 : Int) else -1) ≠ 0 := by split <;> decide
  generalize (if 0 < b then (1 : Int) else -1) = s at *
  refine Int.eq_of_mul_eq_mul_right (a := g * s) (Int.mul_ne_zero (by omega) s0) ?_
  grind
/-- small parts -/
def Bd (B : Int) (s : Int × Int) : Prop := (-B ≤ s.1 ∧ s.1 ≤ B) ∧ 0 < s.2 ∧ s.2 ≤ B
theorem red_bd {a b B : Int} (hb : 0 < b) (h1 : -B ≤ a ∧ a ≤ B) (h2 : b ≤ B) : Bd B (red a b) := by
  obtain ⟨g, g0, e1, e2, p, _⟩ := red_ex (a := a) (b := b) (by omega)
  rw [if_pos hb, Int.one_mul] at e1 e2
  unfold Bd
  generalize (red a b).1 = x at *
  generalize (red a b).2 = y at *
  have g1 : 1 ≤ g := g0
  refine ⟨⟨?_, ?_⟩, p, ?_⟩
  · by_cases z : 0 ≤ x
    · omega
    · have := Int.mul_le_mul_of_nonneg_left g1 (show 0 ≤ -x by omega)
      rw [Int.neg_mul, Int.neg_mul, Int.mul_one] at this
      omega
  · by_cases z : 0 ≤ x
    · have := Int.mul_le_mul_of_nonneg_left g1 z
      rw [Int.mul_one] at this
      omega
    · omega
  · have := Int.mul_le_mul_of_nonneg_left g1 (show 0 ≤ y by omega)
    rw [Int.mul_one] at this
    omega
/-- products -/
theorem mul_bd {a b A B : Int} (h1 : -A ≤ a ∧ a ≤ A) (h2 : -B ≤ b ∧ b ≤ B) : -(A * B) ≤ a * b ∧ a * b ≤ A * B := by
  have hA : 0 ≤ A := by omega
  have hB : 0 ≤ B := by omega
  have n : (a * b).natAbs ≤ (A * B).natAbs := by
    rw [Int.natAbs_mul, Int.natAbs_mul]
    exact Nat.mul_le_mul (by omega) (by omega)
  have := Int.mul_nonneg hA hB
  omega
theorem mul_pos' {a b : Int} (h : 0 < a) (h2 : 0 < b) : 0 < a * b := Int.mul_pos h h2
theorem Bd.sm {B : Int} {s : Int × Int} (h : Bd B s) (hB : B < 2 ^ 31) : Sm s.1 ∧ Sm s.2 := by
  obtain ⟨⟨h1, h2⟩, h3, h4⟩ := h
  refine ⟨⟨?_, ?_⟩, ?_, ?_⟩ <;> omega
/-- sum, product -/
abbrev sadd (s t : Int × Int) : Int × Int := red (s.1 * t.2 + t.1 * s.2) (s.2 * t.2)
abbrev ssub (s t : Int × Int) : Int × Int := red (s.1 * t.2 - t.1 * s.2) (s.2 * t.2)
abbrev smul (s t : Int × Int) : Int × Int := red (s.1 * t.1) (s.2 * t.2)
theorem Bd.add {A B : Int} {s t : Int × Int} (h : Bd A s) (h2 : Bd B t) : Bd (2 * (A * B)) (sadd s t) := by
  have m1 := mul_bd h.1 (a := s.1) (b := t.2) (B := B) ⟨by have := h2.2; omega, h2.2.2⟩
  have m2 := mul_bd (a := t.1) (b := s.2) (A := B) (B := A) h2.1 ⟨by have := h.2; omega, h.2.2⟩
  have m3 := mul_bd (a := s.2) (b := t.2) (A := A) (B := B) ⟨by have := h.2; omega, h.2.2⟩ ⟨by have := h2.2; omega, h2.2.2⟩
  have p := mul_pos' h.2.1 h2.2.1
  rw [Int.mul_comm B A] at m2
  exact red_bd p (by omega) (by omega)
theorem Bd.mul {A B : Int} {s t : Int × Int} (h : Bd A s) (h2 : Bd B t) : Bd (A * B) (smul s t) := by
  have m1 := mul_bd h.1 h2.1
  have m3 := mul_bd (a := s.2) (b := t.2) (A := A) (B := B) ⟨by have := h.2; omega, h.2.2⟩ ⟨by have := h2.2; omega, h2.2.2⟩
  have p := mul_pos' h.2.1 h2.2.1
  exact red_bd p m1 m3.2
theorem add_low {s t : Int × Int} (h : 0 < s.2) (h2 : 0 < t.2) : Low (sadd s t) := red_low (Int.mul_ne_zero (by omega) (by omega))
theorem mul_low {s t : Int × Int} (h : 0 < s.2) (h2 : 0 < t.2) : Low (smul s t) := red_low (Int.mul_ne_zero (by omega) (by omega))
theorem sub_low {s t : Int × Int} (h : 0 < s.2) (h2 : 0 < t.2) : Low (ssub s t) := red_low (Int.mul_ne_zero (by omega) (by omega))
/-- s + t - t -/
theorem add_sub {s t : Int × Int} (hs : Low s) (ht : 0 < t.2) : ssub (sadd s t) t = s := by
  have l := add_low hs.1 ht
  refine low_eq (sub_low l.1 ht) hs ?_
  have e1 := red_val (a := s.1 * t.2 + t.1 * s.2) (b := s.2 * t.2) (Int.mul_ne_zero (by have := hs.1; omega) (by omega))
  have e2 := red_val (a := (sadd s t).1 * t.2 - t.1 * (sadd s t).2) (b := (sadd s t).2 * t.2) (Int.mul_ne_zero (by have := l.1; omega) (by omega))
  have n1 := hs.1
  have n2 := l.1
  unfold ssub
  generalize red ((sadd s t).1 * t.2 - t.1 * (sadd s t).2) ((sadd s t).2 * t.2) = m at *
  unfold sadd at *
  generalize red (s.1 * t.2 + t.1 * s.2) (s.2 * t.2) = r at *
  refine Int.eq_of_mul_eq_mul_right (a := r.2 * (t.2 * t.2)) (Int.mul_ne_zero (by omega) (Int.mul_ne_zero (by omega) (by omega))) ?_
  grind
/-- s * (t + u) = s * t + s * u -/
theorem mul_add' {s t u : Int × Int} (hs : 0 < s.2) (ht : 0 < t.2) (hu : 0 < u.2) : smul s (sadd t u) = sadd (smul s t) (smul s u) := by
  have l1 := add_low ht hu
  have l2 := mul_low hs ht
  have l3 := mul_low hs hu
  refine low_eq (mul_low hs l1.1) (add_low l2.1 l3.1) ?_
  have n1 := l1.1
  have n2 := l2.1
  have n3 := l3.1
  have e1 := red_val (a := t.1 * u.2 + u.1 * t.2) (b := t.2 * u.2) (Int.mul_ne_zero (by omega) (by omega))
  have e2 := red_val (a := s.1 * t.1) (b := s.2 * t.2) (Int.mul_ne_zero (by omega) (by omega))
  have e3 := red_val (a := s.1 * u.1) (b := s.2 * u.2) (Int.mul_ne_zero (by omega) (by omega))
  have e4 := red_val (a := s.1 * (sadd t u).1) (b := s.2 * (sadd t u).2) (Int.mul_ne_zero (by omega) (by omega))
  have e5 := red_val (a := (smul s t).1 * (smul s u).2 + (smul s u).1 * (smul s t).2) (b := (smul s t).2 * (smul s u).2) (Int.mul_ne_zero (by omega) (by omega))
  unfold smul sadd at *
  generalize red (t.1 * u.2 + u.1 * t.2) (t.2 * u.2) = a at *
  generalize red (s.1 * t.1) (s.2 * t.2) = b at *
  generalize red (s.1 * u.1) (s.2 * u.2) = c at *
  generalize red (s.1 * a.1) (s.2 * a.2) = d at *
  generalize red (b.1 * c.2 + c.1 * b.2) (b.2 * c.2) = e at *
  obtain ⟨a1, a2⟩ := a
  obtain ⟨b1, b2⟩ := b
  obtain ⟨c1, c2⟩ := c
  obtain ⟨d1, d2⟩ := d
  obtain ⟨f1, f2⟩ := e
  obtain ⟨s1, s2⟩ := s
  obtain ⟨t1, t2⟩ := t
  obtain ⟨u1, u2⟩ := u
  simp only at *
  -- d1 / d2 = s1 a1 / (s2 a2) = s1 (t1 u2 + u1 t2) / (s2 t2 u2)
  have h1 : d1 * (s2 * t2 * u2) = s1 * (t1 * u2 + u1 * t2) * d2 := by
    refine Int.eq_of_mul_eq_mul_right (a := a2) (by omega) ?_
    grind
  have h2 : f1 * (s2 * t2 * u2) = s1 * (t1 * u2 + u1 * t2) * f2 := by
    refine Int.eq_of_mul_eq_mul_right (a := b2 * (c2 * s2)) (Int.mul_ne_zero (by omega) (Int.mul_ne_zero (by omega) (by omega))) ?_
    grind
  refine Int.eq_of_mul_eq_mul_right (a := s2 * t2 * u2) (Int.mul_ne_zero (Int.mul_ne_zero (by omega) (by omega)) (by omega)) ?_
  grind
/-- floors -/
theorem fdiv_spec {a b : Int} (hb : 0 < b) : a.fdiv b * b ≤ a ∧ a < (a.fdiv b + 1) * b := by
  have e := Int.mul_fdiv_add_fmod a b
  have h1 := Int.fmod_nonneg_of_pos a hb
  have h2 := Int.fmod_lt_of_pos a hb
  have : (a.fdiv b + 1) * b = b * a.fdiv b + b := by grind
  have h3 : a.fdiv b * b = b * a.fdiv b := Int.mul_comm _ _
  omega
end VS.K1
end

section
set_option autoImplicit false
set_option linter.all false
namespace VS.K1
open VS
variable {fuel n : Nat}
abbrev rd (s : Int × Int) : D := .tup [.int s.1, .int s.2]
/-- what is left to add stays small -/
def Few (t : Int × Int) (ss : List (Int × Int)) : Prop := ∃ B : Int, 1 ≤ B ∧ Bd B t ∧ B * 40 ^ ss.length < 2 ^ 28 ∧ ∀ s ∈ ss, Bd 20 s
theorem Few.next {t s : Int × Int} {ss : List (Int × Int)} (h : Few t (s :: ss)) : Bd 20 s ∧ Few (sadd t s) ss ∧ (Sm t.1 ∧ Sm t.2 ∧ t.2 ≠ 0) ∧ (Sm s.1 ∧ Sm s.2 ∧ s.2 ≠ 0) ∧ (t.2 * s.2).natAbs < 2 ^ 28 := by
  obtain ⟨B, h0, h1, h2, h3⟩ := h
  have hs := h3 s (by simp [R.bind, R.bindS, lift, ltD, truD, runDef, entry, evS, retE, evE, evG, evT, evL, evA, evO, evF, evC, evSc, argE, opd, op1, op2, opL, res, resL, trans, tst, truO, getS, putS, newS, Ow.fl, binD, cmpD, cmpV, notD, negD, idxV, idxD, place, callR, refs, nodupN, argSlots, backArgs, outs, keepP, bindT, bindTs, varE, varT, setR, setD, biD, augR, augsR, itemR, augV, ownO, unlS])
  have e : B * 40 ^ (s :: ss).length = 2 * (B * 20) * 40 ^ ss.length := by
    rw [List.length_cons, Int.pow_succ]
    grind
  have lt : (1 : Int) ≤ 40 ^ ss.length := by
    have := Int.pow_pos (n := 40) (m := ss.length) (by decide)
    omega
  have le : B * 40 ≤ B * 40 ^ (s :: ss).length := by
    rw [e]
    have := Int.mul_le_mul_of_nonneg_left lt (show 0 ≤ 2 * (B * 20) by omega)
    omega
  have hB : B * 40 < 2 ^ 28 := by omega
  have bd := h1.sm (by omega)
  have bs := hs.sm (by decide)
  refine ⟨hs, ⟨2 * (B * 20), by omega, h1.add hs, by rw [← e]; exact h2, fun u hu => h3 u (by simp [R.bind, R.bindS, lift, ltD, truD, runDef, entry, evS, retE, evE, evG, evT, evL, evA, evO, evF, evC, evSc, argE, opd, op1, op2, opL, res, resL, trans, tst, truO, getS, putS, newS, Ow.fl, binD, cmpD, cmpV, notD, negD, idxV, idxD, place, callR, refs, nodupN, argSlots, backArgs, outs, keepP, bindT, bindTs, varE, varT, setR, setD, biD, augR, augsR, itemR, augV, ownO, unlS, hu])⟩, ⟨bd.1, bd.2, by have := h1.2; omega⟩, ⟨bs.1, bs.2, by have := hs.2; omega⟩, ?_⟩
  have m3 := mul_bd (a := t.2) (b := s.2) (A := B) (B := 20) ⟨by have := h1.2; omega, h1.2.2⟩ ⟨by have := hs.2; omega, hs.2.2⟩
  omega
theorem t_sum (n : Nat) {rows : List (Int × Int)} (h : Few (0, 1) rows) : C FU (n + 3) 10 [some ⟨.val, true, .lst (rows.map rd)⟩] = .ret .val (rd (rows.foldl sadd (0, 1))) [some ⟨.val, true, .lst (rows.map rd)⟩] := by
  unfold C
  rw [callN_eq (d := Pr.d_sum_of) rfl]
  generalize hF : (⟨callN Pr.prog FU (n + 2), fun g => Pr.prog.glo[g]?, FU, lamsOf ⟨callN Pr.prog FU (n + 2), fun g => Pr.prog.glo[g]?, FU, fun _ _ => .no⟩ Pr.d_sum_of.lams⟩ : Fns) = F
  have hc : F.call = callN Pr.prog FU (n + 2) := by rw [← hF]
  have loop := loopF_fold (f := sadd) (enc := rd) (P := fun t ss r => Few t ss ∧ ∃ pf o, r = [some ⟨.val, true, .lst (rows.map rd)⟩, some ⟨.val, pf, rd t⟩, o]) (step := stepF F (.nm 2) [.asg 1 (.call 2 [(.var 1),(.var 2)])]) (fun t s ss r ⟨hf, pf, o, hr⟩ => by
    subst hr
    obtain ⟨hs, hn, ⟨a1, a2, a3⟩, ⟨b1, b2, b3⟩, _⟩ := hf.next
    have hp := t_plus (n := n) (p := t.1) (q := t.2) (p' := s.1) (q' := s.2) a2 a1 b2 b1 a3 b3
    unfold C at hp
    refine ⟨_, ?_, hn, false, some ⟨.val, false, rd s⟩, rfl⟩
    simp [R.bind, R.bindS, lift, ltD, truD, runDef, entry, evS, retE, evE, evG, evT, evL, evA, evO, evF, evC, evSc, argE, opd, op1, op2, opL, res, resL, trans, tst, truO, getS, putS, newS, Ow.fl, binD, cmpD, cmpV, notD, negD, idxV, idxD, place, callR, refs, nodupN, argSlots, backArgs, outs, keepP, bindT, bindTs, varE, varT, setR, setD, biD, augR, augsR, itemR, augV, ownO, unlS, stepF, evSs, hc, hp]) rows (0, 1) [some ⟨.val, true, .lst (rows.map rd)⟩, some ⟨.val, false, rd (0, 1)⟩, none] ⟨h, false, none, rfl⟩
  obtain ⟨r', er, _, pf, o, rfl⟩ := loop
  refine (def_rt (v := rd (rows.foldl sadd (0, 1))) (r' := [some ⟨.val, true, .lst (rows.map rd)⟩, some ⟨.val, pf, rd (rows.foldl sadd (0, 1))⟩, o]) rfl ?_).trans rfl
  refine (sq_nx (r' := [some ⟨.val, true, .lst (rows.map rd)⟩, some ⟨.val, false, rd (0, 1)⟩, none]) ?_).trans ?_
  · simp [R.bind, R.bindS, lift, ltD, truD, runDef, entry, evS, retE, evE, evG, evT, evL, evA, evO, evF, evC, evSc, argE, opd, op1, op2, opL, res, resL, trans, tst, truO, getS, putS, newS, Ow.fl, binD, cmpD, cmpV, notD, negD, idxV, idxD, place, callR, refs, nodupN, argSlots, backArgs, outs, keepP, bindT, bindTs, varE, varT, setR, setD, biD, augR, augsR, itemR, augV, ownO, unlS, Pr.d_sum_of]
  refine (sq_nx (r' := [some ⟨.val, true, .lst (rows.map rd)⟩, some ⟨.val, pf, rd (rows.foldl sadd (0, 1))⟩, o]) ?_).trans ?_
  · refine (ev_for (r1 := [some ⟨.val, true, .lst (rows.map rd)⟩, some ⟨.val, false, rd (0, 1)⟩, none]) (its := rows.map rd) (ws := []) ?_ er).trans ?_
    · simp [R.bind, R.bindS, lift, ltD, truD, runDef, entry, evS, retE, evE, evG, evT, evL, evA, evO, evF, evC, evSc, argE, opd, op1, op2, opL, res, resL, trans, tst, truO, getS, putS, newS, Ow.fl, binD, cmpD, cmpV, notD, negD, idxV, idxD, place, callR, refs, nodupN, argSlots, backArgs, outs, keepP, bindT, bindTs, varE, varT, setR, setD, biD, augR, augsR, itemR, augV, ownO, unlS, seqD]
    · simp [R.bind, R.bindS, lift, ltD, truD, runDef, entry, evS, retE, evE, evG, evT, evL, evA, evO, evF, evC, evSc, argE, opd, op1, op2, opL, res, resL, trans, tst, truO, getS, putS, newS, Ow.fl, binD, cmpD, cmpV, notD, negD, idxV, idxD, place, callR, refs, nodupN, argSlots, backArgs, outs, keepP, bindT, bindTs, varE, varT, setR, setD, biD, augR, augsR, itemR, augV, ownO, unlS, unlend]
  · refine sq_rt ?_
    simp [R.bind, R.bindS, lift, ltD, truD, runDef, entry, evS, retE, evE, evG, evT, evL, evA, evO, evF, evC, evSc, argE, opd, op1, op2, opL, res, resL, trans, tst, truO, getS, putS, newS, Ow.fl, binD, cmpD, cmpV, notD, negD, idxV, idxD, place, callR, refs, nodupN, argSlots, backArgs, outs, keepP, bindT, bindTs, varE, varT, setR, setD, biD, augR, augsR, itemR, augV, ownO, unlS]
end VS.K1
end

section
set_option autoImplicit false
set_option linter.all false
namespace VS.K1
open VS
variable {fuel n : Nat} {N S : Int} {ps : List Int}
/-! split -/
abbrev li (ns : List Int) : D := .lst (ns.map D.int)
abbrev pd (p : Int × Int) : D := .tup [.int p.1, .int p.2]
def fl (N : Int) (ps : List Int) : List Int := ps.map fun x => (N * x).fdiv ps.sum
/-- the rests, and the places -/
def prs (N S : Int) : Nat → List Int → List (Int × Int)
  | _, [] => []
  | k, x :: xs => (0 - (N * x).fmod S, (k : Int)) :: prs N S (k + 1) xs
def srt (N : Int) (ps : List Int) : List (Int × Int) := sortS ltP2 (prs N ps.sum 0 ps)
def top (N : Int) (ps : List Int) : List (Int × Int) := (srt N ps).take (N - (fl N ps).sum).toNat
def inc (f : List Int) (p : Int × Int) : List Int := f.set p.2.toNat (f.getD p.2.toNat 0 + 1)
def spl (N : Int) (ps : List Int) : List Int := (top N ps).foldl inc (fl N ps)
/-- what is given -/
structure In (N : Int) (ps : List Int) : Prop where
  n0 : 0 ≤ N
  n1 : N < 50
  nn : ∀ x ∈ ps, 0 ≤ x ∧ x < 6
  len : ps.length ≤ 5
theorem sum_nonneg : ∀ {ps : List Int}, (∀ x ∈ ps, 0 ≤ x) → 0 ≤ ps.sum
  | [], _ => by simp [R.bind, R.bindS, lift, ltD, truD, runDef, entry, evS, retE, evE, evG, evT, evL, evA, evO, evF, evC, evSc, argE, opd, op1, op2, opL, res, resL, trans, tst, truO, getS, putS, newS, Ow.fl, binD, cmpD, cmpV, notD, negD, idxV, idxD, place, callR, refs, nodupN, argSlots, backArgs, outs, keepP, bindT, bindTs, varE, varT, setR, setD, biD, augR, augsR, itemR, augV, ownO, unlS]
  | x :: ps, h => by
    have := sum_nonneg (ps := ps) fun y hy => h y (by simp [R.bind, R.bindS, lift, ltD, truD, runDef, entry, evS, retE, evE, evG, evT, evL, evA, evO, evF, evC, evSc, argE, opd, op1, op2, opL, res, resL, trans, tst, truO, getS, putS, newS, Ow.fl, binD, cmpD, cmpV, notD, negD, idxV, idxD, place, callR, refs, nodupN, argSlots, backArgs, outs, keepP, bindT, bindTs, varE, varT, setR, setD, biD, augR, augsR, itemR, augV, ownO, unlS, hy])
    have := h x (by simp [R.bind, R.bindS, lift, ltD, truD, runDef, entry, evS, retE, evE, evG, evT, evL, evA, evO, evF, evC, evSc, argE, opd, op1, op2, opL, res, resL, trans, tst, truO, getS, putS, newS, Ow.fl, binD, cmpD, cmpV, notD, negD, idxV, idxD, place, callR, refs, nodupN, argSlots, backArgs, outs, keepP, bindT, bindTs, varE, varT, setR, setD, biD, augR, augsR, itemR, augV, ownO, unlS])
    simp only [List.sum_cons]
    omega
theorem sum_le : ∀ {ps : List Int} {B : Int}, (∀ x ∈ ps, x ≤ B) → ps.sum ≤ B * ps.length
  | [], B, _ => by simp [R.bind, R.bindS, lift, ltD, truD, runDef, entry, evS, retE, evE, evG, evT, evL, evA, evO, evF, evC, evSc, argE, opd, op1, op2, opL, res, resL, trans, tst, truO, getS, putS, newS, Ow.fl, binD, cmpD, cmpV, notD, negD, idxV, idxD, place, callR, refs, nodupN, argSlots, backArgs, outs, keepP, bindT, bindTs, varE, varT, setR, setD, biD, augR, augsR, itemR, augV, ownO, unlS]
  | x :: ps, B, h => by
    have := sum_le (ps := ps) fun y hy => h y (by simp [R.bind, R.bindS, lift, ltD, truD, runDef, entry, evS, retE, evE, evG, evT, evL, evA, evO, evF, evC, evSc, argE, opd, op1, op2, opL, res, resL, trans, tst, truO, getS, putS, newS, Ow.fl, binD, cmpD, cmpV, notD, negD, idxV, idxD, place, callR, refs, nodupN, argSlots, backArgs, outs, keepP, bindT, bindTs, varE, varT, setR, setD, biD, augR, augsR, itemR, augV, ownO, unlS, hy])
    have := h x (by simp [R.bind, R.bindS, lift, ltD, truD, runDef, entry, evS, retE, evE, evG, evT, evL, evA, evO, evF, evC, evSc, argE, opd, op1, op2, opL, res, resL, trans, tst, truO, getS, putS, newS, Ow.fl, binD, cmpD, cmpV, notD, negD, idxV, idxD, place, callR, refs, nodupN, argSlots, backArgs, outs, keepP, bindT, bindTs, varE, varT, setR, setD, biD, augR, augsR, itemR, augV, ownO, unlS])
    simp only [List.sum_cons, List.length_cons]
    have e : B * ((ps.length + 1 : Nat) : Int) = B * ps.length + B := by
      rw [Int.natCast_add, Int.mul_add]
      simp [R.bind, R.bindS, lift, ltD, truD, runDef, entry, evS, retE, evE, evG, evT, evL, evA, evO, evF, evC, evSc, argE, opd, op1, op2, opL, res, resL, trans, tst, truO, getS, putS, newS, Ow.fl, binD, cmpD, cmpV, notD, negD, idxV, idxD, place, callR, refs, nodupN, argSlots, backArgs, outs, keepP, bindT, bindTs, varE, varT, setR, setD, biD, augR, augsR, itemR, augV, ownO, unlS]
    omega
theorem prs_len : ∀ (ps : List Int) (k : Nat), (prs N S k ps).length = ps.length
  | [], _ => rfl
  | x :: ps, k => by simp [R.bind, R.bindS, lift, ltD, truD, runDef, entry, evS, retE, evE, evG, evT, evL, evA, evO, evF, evC, evSc, argE, opd, op1, op2, opL, res, resL, trans, tst, truO, getS, putS, newS, Ow.fl, binD, cmpD, cmpV, notD, negD, idxV, idxD, place, callR, refs, nodupN, argSlots, backArgs, outs, keepP, bindT, bindTs, varE, varT, setR, setD, biD, augR, augsR, itemR, augV, ownO, unlS, prs, prs_len ps]
theorem prs_rng : ∀ (ps : List Int) (k : Nat) (p : Int × Int), p ∈ prs N S k ps → (k : Int) ≤ p.2 ∧ p.2 < k + ps.length
  | [], _, _, h => by simp [R.bind, R.bindS, lift, ltD, truD, runDef, entry, evS, retE, evE, evG, evT, evL, evA, evO, evF, evC, evSc, argE, opd, op1, op2, opL, res, resL, trans, tst, truO, getS, putS, newS, Ow.fl, binD, cmpD, cmpV, notD, negD, idxV, idxD, place, callR, refs, nodupN, argSlots, backArgs, outs, keepP, bindT, bindTs, varE, varT, setR, setD, biD, augR, augsR, itemR, augV, ownO, unlS, prs] at h
  | x :: ps, k, p, h => by
    simp only [prs, List.mem_cons] at h
    rcases h with rfl | h
    · simp only [List.length_cons]
      omega
    · have := prs_rng ps (k + 1) p h
      simp only [List.length_cons]
      omega
theorem prs_nodup : ∀ (ps : List Int) (k : Nat), ((prs N S k ps).map (·.2)).Nodup
  | [], _ => by simp [R.bind, R.bindS, lift, ltD, truD, runDef, entry, evS, retE, evE, evG, evT, evL, evA, evO, evF, evC, evSc, argE, opd, op1, op2, opL, res, resL, trans, tst, truO, getS, putS, newS, Ow.fl, binD, cmpD, cmpV, notD, negD, idxV, idxD, place, callR, refs, nodupN, argSlots, backArgs, outs, keepP, bindT, bindTs, varE, varT, setR, setD, biD, augR, augsR, itemR, augV, ownO, unlS, prs]
  | x :: ps, k => by
    simp only [prs, List.map_cons, List.nodup_cons]
    refine ⟨fun h => ?_, prs_nodup ps (k + 1)⟩
    obtain ⟨p, hp, e⟩ := List.mem_map.1 h
    have := prs_rng ps (k + 1) p hp
    omega
theorem top_rng {p : Int × Int} (h : p ∈ top N ps) : 0 ≤ p.2 ∧ p.2 < ps.length := by
  have h1 : p ∈ prs N ps.sum 0 ps := (sortSP _).mem_iff.1 (List.mem_of_mem_take h)
  have := prs_rng ps 0 p h1
  omega
theorem top_nodup : ((top N ps).map (·.2)).Nodup := by
  have h : ((srt N ps).map (·.2)).Nodup := ((sortSP _).map _).nodup_iff.2 (prs_nodup ps 0)
  have : (top N ps).map (·.2) = ((srt N ps).map (·.2)).take (N - (fl N ps).sum).toNat := by
    unfold top
    rw [List.map_take]
  rw [this]
  exact h.sublist (List.take_sublist _ _)
theorem inc_len {f : List Int} {p : Int × Int} : (inc f p).length = f.length := by simp [R.bind, R.bindS, lift, ltD, truD, runDef, entry, evS, retE, evE, evG, evT, evL, evA, evO, evF, evC, evSc, argE, opd, op1, op2, opL, res, resL, trans, tst, truO, getS, putS, newS, Ow.fl, binD, cmpD, cmpV, notD, negD, idxV, idxD, place, callR, refs, nodupN, argSlots, backArgs, outs, keepP, bindT, bindTs, varE, varT, setR, setD, biD, augR, augsR, itemR, augV, ownO, unlS, inc]
theorem incs_len : ∀ (ss : List (Int × Int)) (f : List Int), (ss.foldl inc f).length = f.length
  | [], f => rfl
  | s :: ss, f => by rw [List.foldl_cons, incs_len ss, inc_len]
/-- the places that are raised, and the sum -/
theorem incs_at : ∀ (ss : List (Int × Int)) (f : List Int) (k : Nat), k < f.length → (∀ p ∈ ss, 0 ≤ p.2 ∧ p.2 < f.length) → (ss.map (·.2)).Nodup → (ss.foldl inc f).getD k 0 = f.getD k 0 + if (k : Int) ∈ ss.map (·.2) then 1 else 0
  | [], f, k, _, _, _ => by simp [R.bind, R.bindS, lift, ltD, truD, runDef, entry, evS, retE, evE, evG, evT, evL, evA, evO, evF, evC, evSc, argE, opd, op1, op2, opL, res, resL, trans, tst, truO, getS, putS, newS, Ow.fl, binD, cmpD, cmpV, notD, negD, idxV, idxD, place, callR, refs, nodupN, argSlots, backArgs, outs, keepP, bindT, bindTs, varE, varT, setR, setD, biD, augR, augsR, itemR, augV, ownO, unlS]
  | s :: ss, f, k, hk, h, nd => by
    simp only [List.map_cons, List.nodup_cons] at nd
    have hs := h s (by simp [R.bind, R.bindS, lift, ltD, truD, runDef, entry, evS, retE, evE, evG, evT, evL, evA, evO, evF, evC, evSc, argE, opd, op1, op2, opL, res, resL, trans, tst, truO, getS, putS, newS, Ow.fl, binD, cmpD, cmpV, notD, negD, idxV, idxD, place, callR, refs, nodupN, argSlots, backArgs, outs, keepP, bindT, bindTs, varE, varT, setR, setD, biD, augR, augsR, itemR, augV, ownO, unlS])
    rw [List.foldl_cons, incs_at ss (inc f s) k (by rw [inc_len]; exact hk) (fun p hp => by rw [inc_len]; exact h p (by simp [R.bind, R.bindS, lift, ltD, truD, runDef, entry, evS, retE, evE, evG, evT, evL, evA, evO, evF, evC, evSc, argE, opd, op1, op2, opL, res, resL, trans, tst, truO, getS, putS, newS, Ow.fl, binD, cmpD, cmpV, notD, negD, idxV, idxD, place, callR, refs, nodupN, argSlots, backArgs, outs, keepP, bindT, bindTs, varE, varT, setR, setD, biD, augR, augsR, itemR, augV, ownO, unlS, hp])) nd.2]
    unfold inc
    by_cases e : s.2.toNat = k
    · have e2 : s.2 = (k : Int) := by omega
      have n2 : ¬ (k : Int) ∈ ss.map (·.2) := by rw [← e2]; exact nd.1
      rw [if_neg n2, if_pos (by simp [R.bind, R.bindS, lift, ltD, truD, runDef, entry, evS, retE, evE, evG, evT, evL, evA, evO, evF, evC, evSc, argE, opd, op1, op2, opL, res, resL, trans, tst, truO, getS, putS, newS, Ow.fl, binD, cmpD, cmpV, notD, negD, idxV, idxD, place, callR, refs, nodupN, argSlots, backArgs, outs, keepP, bindT, bindTs, varE, varT, setR, setD, biD, augR, augsR, itemR, augV, ownO, unlS, e2]), e]
      simp [R.bind, R.bindS, lift, ltD, truD, runDef, entry, evS, retE, evE, evG, evT, evL, evA, evO, evF, evC, evSc, argE, opd, op1, op2, opL, res, resL, trans, tst, truO, getS, putS, newS, Ow.fl, binD, cmpD, cmpV, notD, negD, idxV, idxD, place, callR, refs, nodupN, argSlots, backArgs, outs, keepP, bindT, bindTs, varE, varT, setR, setD, biD, augR, augsR, itemR, augV, ownO, unlS, List.getD_eq_getElem?_getD, List.getElem?_set, hk]
    · have e2 : ¬ s.2 = (k : Int) := by omega
      have e3 : ((k : Int) ∈ s.2 :: ss.map (·.2)) = ((k : Int) ∈ ss.map (·.2)) := by
        simp only [List.mem_cons]
        exact propext ⟨fun z => z.elim (fun z => absurd z.symm e2) id, .inr⟩
      simp only [List.map_cons, e3]
      simp [R.bind, R.bindS, lift, ltD, truD, runDef, entry, evS, retE, evE, evG, evT, evL, evA, evO, evF, evC, evSc, argE, opd, op1, op2, opL, res, resL, trans, tst, truO, getS, putS, newS, Ow.fl, binD, cmpD, cmpV, notD, negD, idxV, idxD, place, callR, refs, nodupN, argSlots, backArgs, outs, keepP, bindT, bindTs, varE, varT, setR, setD, biD, augR, augsR, itemR, augV, ownO, unlS, List.getD_eq_getElem?_getD, List.getElem?_set, e]
theorem set_sum : ∀ (f : List Int) (k : Nat), k < f.length → (f.set k (f.getD k 0 + 1)).sum = f.sum + 1
  | [], k, h => by simp [R.bind, R.bindS, lift, ltD, truD, runDef, entry, evS, retE, evE, evG, evT, evL, evA, evO, evF, evC, evSc, argE, opd, op1, op2, opL, res, resL, trans, tst, truO, getS, putS, newS, Ow.fl, binD, cmpD, cmpV, notD, negD, idxV, idxD, place, callR, refs, nodupN, argSlots, backArgs, outs, keepP, bindT, bindTs, varE, varT, setR, setD, biD, augR, augsR, itemR, augV, ownO, unlS] at h
  | x :: f, 0, _ => by simp [R.bind, R.bindS, lift, ltD, truD, runDef, entry, evS, retE, evE, evG, evT, evL, evA, evO, evF, evC, evSc, argE, opd, op1, op2, opL, res, resL, trans, tst, truO, getS, putS, newS, Ow.fl, binD, cmpD, cmpV, notD, negD, idxV, idxD, place, callR, refs, nodupN, argSlots, backArgs, outs, keepP, bindT, bindTs, varE, varT, setR, setD, biD, augR, augsR, itemR, augV, ownO, unlS]; omega
  | x :: f, k + 1, h => by
    have := set_sum f k (by simpa using h)
    simp only [List.set_cons_succ, List.sum_cons, List.getD_cons_succ, this]
    omega
theorem incs_sum : ∀ (ss : List (Int × Int)) (f : List Int), (∀ p ∈ ss, 0 ≤ p.2 ∧ p.2 < f.length) → (ss.foldl inc f).sum = f.sum + ss.length
  | [], f, _ => by simp [R.bind, R.bindS, lift, ltD, truD, runDef, entry, evS, retE, evE, evG, evT, evL, evA, evO, evF, evC, evSc, argE, opd, op1, op2, opL, res, resL, trans, tst, truO, getS, putS, newS, Ow.fl, binD, cmpD, cmpV, notD, negD, idxV, idxD, place, callR, refs, nodupN, argSlots, backArgs, outs, keepP, bindT, bindTs, varE, varT, setR, setD, biD, augR, augsR, itemR, augV, ownO, unlS]
  | s :: ss, f, h => by
    have hs := h s (by simp [R.bind, R.bindS, lift, ltD, truD, runDef, entry, evS, retE, evE, evG, evT, evL, evA, evO, evF, evC, evSc, argE, opd, op1, op2, opL, res, resL, trans, tst, truO, getS, putS, newS, Ow.fl, binD, cmpD, cmpV, notD, negD, idxV, idxD, place, callR, refs, nodupN, argSlots, backArgs, outs, keepP, bindT, bindTs, varE, varT, setR, setD, biD, augR, augsR, itemR, augV, ownO, unlS])
    rw [List.foldl_cons, incs_sum ss (inc f s) fun p hp => by rw [inc_len]; exact h p (by simp [R.bind, R.bindS, lift, ltD, truD, runDef, entry, evS, retE, evE, evG, evT, evL, evA, evO, evF, evC, evSc, argE, opd, op1, op2, opL, res, resL, trans, tst, truO, getS, putS, newS, Ow.fl, binD, cmpD, cmpV, notD, negD, idxV, idxD, place, callR, refs, nodupN, argSlots, backArgs, outs, keepP, bindT, bindTs, varE, varT, setR, setD, biD, augR, augsR, itemR, augV, ownO, unlS, hp])]
    unfold inc
    rw [set_sum f _ (by omega)]
    simp only [List.length_cons]
    omega
/-- how many are left -/
theorem rest_eq (hS : 0 < S) : ∀ ps : List Int, S * (ps.map fun x => (N * x).fdiv S).sum + (ps.map fun x => (N * x).fmod S).sum = N * ps.sum
  | [] => by simp [R.bind, R.bindS, lift, ltD, truD, runDef, entry, evS, retE, evE, evG, evT, evL, evA, evO, evF, evC, evSc, argE, opd, op1, op2, opL, res, resL, trans, tst, truO, getS, putS, newS, Ow.fl, binD, cmpD, cmpV, notD, negD, idxV, idxD, place, callR, refs, nodupN, argSlots, backArgs, outs, keepP, bindT, bindTs, varE, varT, setR, setD, biD, augR, augsR, itemR, augV, ownO, unlS]
  | x :: ps => by
    have ih := rest_eq hS ps
    have e := Int.mul_fdiv_add_fmod (N * x) S
    simp only [List.map_cons, List.sum_cons]
    grind
theorem left_ok (h : In N ps) (hS : 0 < ps.sum) : 0 ≤ N - (fl N ps).sum ∧ N - (fl N ps).sum ≤ ps.length := by
  have e := rest_eq (N := N) hS ps
  have a1 : 0 ≤ (ps.map fun x => (N * x).fmod ps.sum).sum := sum_nonneg fun y hy => by
    obtain ⟨x, _, rfl⟩ := List.mem_map.1 hy
    exact Int.fmod_nonneg_of_pos _ hS
  have a2 := sum_le (ps := ps.map fun x => (N * x).fmod ps.sum) (B := ps.sum) fun y hy => by
    obtain ⟨x, _, rfl⟩ := List.mem_map.1 hy
    have := Int.fmod_lt_of_pos (N * x) hS
    omega
  rw [List.length_map] at a2
  have e2 : ps.sum * (N - (fl N ps).sum) = (ps.map fun x => (N * x).fmod ps.sum).sum := by
    unfold fl
    grind
  constructor
  · refine Int.not_lt.1 fun z => ?_
    have := Int.mul_lt_mul_of_pos_left z hS
    omega
  · refine Int.not_lt.1 fun z => ?_
    have := Int.mul_lt_mul_of_pos_left z hS
    omega
theorem top_len (h : In N ps) (hS : 0 < ps.sum) : ((top N ps).length : Int) = N - (fl N ps).sum := by
  have l := left_ok h hS
  have e : (srt N ps).length = ps.length := by
    unfold srt
    rw [(sortSP _).length_eq, prs_len]
  unfold top
  rw [List.length_take, e]
  omega
theorem spl_len : (spl N ps).length = ps.length := by
  unfold spl
  rw [incs_len]
  simp [R.bind, R.bindS, lift, ltD, truD, runDef, entry, evS, retE, evE, evG, evT, evL, evA, evO, evF, evC, evSc, argE, opd, op1, op2, opL, res, resL, trans, tst, truO, getS, putS, newS, Ow.fl, binD, cmpD, cmpV, notD, negD, idxV, idxD, place, callR, refs, nodupN, argSlots, backArgs, outs, keepP, bindT, bindTs, varE, varT, setR, setD, biD, augR, augsR, itemR, augV, ownO, unlS, fl]
theorem spl_sum (h : In N ps) (hS : 0 < ps.sum) : (spl N ps).sum = N := by
  unfold spl
  rw [incs_sum _ _ (fun p hp => by have := top_rng hp; simpa [fl] using this), top_len h hS]
  omega
theorem spl_at {k : Nat} (hk : k < ps.length) : (spl N ps).getD k 0 = (fl N ps).getD k 0 + if (k : Int) ∈ (top N ps).map (·.2) then 1 else 0 :=
  incs_at _ _ _ (by simpa [fl] using hk) (fun p hp => by have := top_rng hp; simpa [fl] using this) top_nodup
end VS.K1
end

section
set_option autoImplicit false
set_option linter.all false
namespace VS.K1
open VS
variable {fuel n : Nat} {N S : Int} {ps : List Int}
abbrev pl (ps : List Int) : Option Slot := some ⟨.val, true, li ps⟩
theorem t_split0 (h : In N ps) (hS : ps.sum = 0) : C fuel (n + 1) 12 [vi N, pl ps] = .ex 1 [vi N, pl ps] := by
  unfold C
  rw [callN_eq (d := Pr.d_split) rfl]
  refine (def_ex (r' := [vi N, pl ps, none, none, none, none, none, none]) rfl (sq_ex ?_)).trans rfl
  by_cases z : ps = []
  · subst z
    simp [R.bind, R.bindS, lift, ltD, truD, runDef, entry, evS, retE, evE, evG, evT, evL, evA, evO, evF, evC, evSc, argE, opd, op1, op2, opL, res, resL, trans, tst, truO, getS, putS, newS, Ow.fl, binD, cmpD, cmpV, notD, negD, idxV, idxD, place, callR, refs, nodupN, argSlots, backArgs, outs, keepP, bindT, bindTs, varE, varT, setR, setD, biD, augR, augsR, itemR, augV, ownO, unlS, Pr.d_split, evSs, lenD, peq, shal]
  · obtain ⟨m, hm, m0⟩ := minI_nonneg (fun x hx => (h.nn x hx).1) z
    have m1 : ¬ m < 0 := by omega
    have z2 : ((ps.length : Int) == 0) = false := by
      have : ps.length ≠ 0 := fun e => z (List.length_eq_zero_iff.1 e)
      simpa using this
    simp [R.bind, R.bindS, lift, ltD, truD, runDef, entry, evS, retE, evE, evG, evT, evL, evA, evO, evF, evC, evSc, argE, opd, op1, op2, opL, res, resL, trans, tst, truO, getS, putS, newS, Ow.fl, binD, cmpD, cmpV, notD, negD, idxV, idxD, place, callR, refs, nodupN, argSlots, backArgs, outs, keepP, bindT, bindTs, varE, varT, setR, setD, biD, augR, augsR, itemR, augV, ownO, unlS, Pr.d_split, evSs, lenD, peq, shal, seqD, consD, ints_map, hm, m1, hS, z2]
theorem len_enum : ∀ (k : Nat) (ds : List D), (enumD k ds).length = ds.length
  | k, [] => rfl
  | k, d :: ds => by simp [R.bind, R.bindS, lift, ltD, truD, runDef, entry, evS, retE, evE, evG, evT, evL, evA, evO, evF, evC, evSc, argE, opd, op1, op2, opL, res, resL, trans, tst, truO, getS, putS, newS, Ow.fl, binD, cmpD, cmpV, notD, negD, idxV, idxD, place, callR, refs, nodupN, argSlots, backArgs, outs, keepP, bindT, bindTs, varE, varT, setR, setD, biD, augR, augsR, itemR, augV, ownO, unlS, enumD, len_enum]
/-- an enumeration as a map -/
def nums : Nat → List Int → List (Nat × Int)
  | _, [] => []
  | k, x :: xs => (k, x) :: nums (k + 1) xs
theorem enum_nums : ∀ (k : Nat) (ps : List Int), enumD k (ps.map D.int) = (nums k ps).map fun p => D.tup [.int (p.1 : Nat), .int p.2]
  | k, [] => rfl
  | k, x :: xs => by simp [R.bind, R.bindS, lift, ltD, truD, runDef, entry, evS, retE, evE, evG, evT, evL, evA, evO, evF, evC, evSc, argE, opd, op1, op2, opL, res, resL, trans, tst, truO, getS, putS, newS, Ow.fl, binD, cmpD, cmpV, notD, negD, idxV, idxD, place, callR, refs, nodupN, argSlots, backArgs, outs, keepP, bindT, bindTs, varE, varT, setR, setD, biD, augR, augsR, itemR, augV, ownO, unlS, enumD, nums, enum_nums]
theorem prs_nums : ∀ (k : Nat) (ps : List Int), prs N S k ps = (nums k ps).map fun p => (0 - (N * p.2).fmod S, ((p.1 : Nat) : Int))
  | k, [] => rfl
  | k, x :: xs => by simp [R.bind, R.bindS, lift, ltD, truD, runDef, entry, evS, retE, evE, evG, evT, evL, evA, evO, evF, evC, evSc, argE, opd, op1, op2, opL, res, resL, trans, tst, truO, getS, putS, newS, Ow.fl, binD, cmpD, cmpV, notD, negD, idxV, idxD, place, callR, refs, nodupN, argSlots, backArgs, outs, keepP, bindT, bindTs, varE, varT, setR, setD, biD, augR, augsR, itemR, augV, ownO, unlS, prs, nums, prs_nums]
theorem nums_len : ∀ (k : Nat) (ps : List Int), (nums k ps).length = ps.length
  | k, [] => rfl
  | k, x :: xs => by simp [R.bind, R.bindS, lift, ltD, truD, runDef, entry, evS, retE, evE, evG, evT, evL, evA, evO, evF, evC, evSc, argE, opd, op1, op2, opL, res, resL, trans, tst, truO, getS, putS, newS, Ow.fl, binD, cmpD, cmpV, notD, negD, idxV, idxD, place, callR, refs, nodupN, argSlots, backArgs, outs, keepP, bindT, bindTs, varE, varT, setR, setD, biD, augR, augsR, itemR, augV, ownO, unlS, nums, nums_len]
theorem smN (h : In N ps) : ∀ i, mulOk N i = true := fun i => mulOk_l (by have := h.n0; have := h.n1; omega)
theorem sum_dv (h : In N ps) (hS : 0 < ps.sum) : divOk ps.sum = true := divOk_of hS (by
  have := sum_le (ps := ps) (B := 6) fun x hx => by have := h.nn x hx; omega
  have := h.len
  omega)
theorem sort_pairs (l : List (Int × Int)) : sortV (l.map pd) = some ((sortS ltP2 l).map pd) := by
  unfold sortV
  cases l with
  | nil => rfl
  | cons p l =>
    have : intsD ((p :: l).map pd) = none := rfl
    rw [this, pairs_map]
theorem slice_top (h : In N ps) (hS : 0 < ps.sum) : slice ((srt N ps).map pd) none (some (N - (fl N ps).sum)) = (top N ps).map pd := by
  have l := left_ok h hS
  have e : (srt N ps).length = ps.length := by
    unfold srt
    rw [(sortSP _).length_eq, prs_len]
  unfold slice cutTo top
  simp only [List.drop_zero, List.length_map, if_pos l.1]
  rw [List.map_take, e, Nat.min_eq_left (by omega)]
theorem t_split (h : In N ps) (hS : 0 < ps.sum) : C fuel (n + 1) 12 [vi N, pl ps] = .ret .val (.tup ((spl N ps).map D.int)) [vi N, pl ps] := by
  unfold C
  rw [callN_eq (d := Pr.d_split) rfl]
  generalize (⟨callN Pr.prog fuel n, fun g => Pr.prog.glo[g]?, fuel, lamsOf ⟨callN Pr.prog fuel n, fun g => Pr.prog.glo[g]?, fuel, fun _ _ => .no⟩ Pr.d_split.lams⟩ : Fns) = F
  have z : ps ≠ [] := fun e => by subst e; simp [R.bind, R.bindS, lift, ltD, truD, runDef, entry, evS, retE, evE, evG, evT, evL, evA, evO, evF, evC, evSc, argE, opd, op1, op2, opL, res, resL, trans, tst, truO, getS, putS, newS, Ow.fl, binD, cmpD, cmpV, notD, negD, idxV, idxD, place, callR, refs, nodupN, argSlots, backArgs, outs, keepP, bindT, bindTs, varE, varT, setR, setD, biD, augR, augsR, itemR, augV, ownO, unlS] at hS
  obtain ⟨m, hm, m0⟩ := minI_nonneg (fun x hx => (h.nn x hx).1) z
  have m1 : ¬ m < 0 := by omega
  have z2 : ((ps.length : Int) == 0) = false := by
    have : ps.length ≠ 0 := fun e => z (List.length_eq_zero_iff.1 e)
    simpa using this
  have s0 : (ps.sum == 0) = false := by simpa using (show ps.sum ≠ 0 by omega)
  have s1 : ps.sum ≠ 0 := by omega
  have n0 : ¬ N < 0 := by have := h.n0; omega
  have dv := sum_dv h hS
  have mN := smN h
  -- the floors
  have c1 := loopC_map (ns := [4]) (step := stepC F (.bin .fdiv (.bin .mul (.var 0) (.var 4)) (.var 2)) (.nm 4) []) (enc := D.int) (f := fun x => D.int ((N * x).fdiv ps.sum)) (P := fun r => r = [vi N, some ⟨.val, true, li ps⟩, some ⟨.val, false, .int ps.sum⟩, none, none, none, none, none]) ps
    [vi N, some ⟨.val, true, li ps⟩, some ⟨.val, false, .int ps.sum⟩, none, none, none, none, none] (fun x _ r hr => by
      subst hr
      exact ⟨[vi N, some ⟨.val, true, li ps⟩, some ⟨.val, false, .int ps.sum⟩, none, some ⟨.val, false, .int x⟩, none, none, none], by simp [R.bind, R.bindS, lift, ltD, truD, runDef, entry, evS, retE, evE, evG, evT, evL, evA, evO, evF, evC, evSc, argE, opd, op1, op2, opL, res, resL, trans, tst, truO, getS, putS, newS, Ow.fl, binD, cmpD, cmpV, notD, negD, idxV, idxD, place, callR, refs, nodupN, argSlots, backArgs, outs, keepP, bindT, bindTs, varE, varT, setR, setD, biD, augR, augsR, itemR, augV, ownO, unlS, stepC, turnC, dv, mN], rfl⟩) rfl
  obtain ⟨r1, c1, rfl⟩ := c1
  have q1 : ps.map (fun x => D.int ((N * x).fdiv ps.sum)) = (fl N ps).map D.int := by simp [R.bind, R.bindS, lift, ltD, truD, runDef, entry, evS, retE, evE, evG, evT, evL, evA, evO, evF, evC, evSc, argE, opd, op1, op2, opL, res, resL, trans, tst, truO, getS, putS, newS, Ow.fl, binD, cmpD, cmpV, notD, negD, idxV, idxD, place, callR, refs, nodupN, argSlots, backArgs, outs, keepP, bindT, bindTs, varE, varT, setR, setD, biD, augR, augsR, itemR, augV, ownO, unlS, fl]
  rw [q1] at c1
  -- the rests
  have c2 := loopC_map (ns := [6, 4]) (step := stepC F (.tup [(.bin .sub (.int 0) (.bin .mod (.bin .mul (.var 0) (.var 4)) (.var 2))),(.var 6)]) (.tup [(.nm 6),(.nm 4)]) []) (enc := fun p : Nat × Int => D.tup [.int (p.1 : Nat), .int p.2]) (f := fun p => pd (0 - (N * p.2).fmod ps.sum, (p.1 : Nat)))
    (P := fun r => r = [vi N, some ⟨.val, true, li ps⟩, some ⟨.val, false, .int ps.sum⟩, some ⟨.own, false, li (fl N ps)⟩, none, none, none, none]) (nums 0 ps)
    [vi N, some ⟨.val, true, li ps⟩, some ⟨.val, false, .int ps.sum⟩, some ⟨.own, false, li (fl N ps)⟩, none, none, none, none] (fun x _ r hr => by
      subst hr
      exact ⟨[vi N, some ⟨.val, true, li ps⟩, some ⟨.val, false, .int ps.sum⟩, some ⟨.own, false, li (fl N ps)⟩, some ⟨.val, false, .int x.2⟩, none, some ⟨.val, false, .int (x.1 : Nat)⟩, none], by simp [R.bind, R.bindS, lift, ltD, truD, runDef, entry, evS, retE, evE, evG, evT, evL, evA, evO, evF, evC, evSc, argE, opd, op1, op2, opL, res, resL, trans, tst, truO, getS, putS, newS, Ow.fl, binD, cmpD, cmpV, notD, negD, idxV, idxD, place, callR, refs, nodupN, argSlots, backArgs, outs, keepP, bindT, bindTs, varE, varT, setR, setD, biD, augR, augsR, itemR, augV, ownO, unlS, stepC, turnC, mN, s1], rfl⟩) rfl
  obtain ⟨r2, c2, rfl⟩ := c2
  have q2 : (nums 0 ps).map (fun p => pd (0 - (N * p.2).fmod ps.sum, ((p.1 : Nat) : Int))) = (prs N ps.sum 0 ps).map pd := by
    rw [prs_nums, List.map_map]
    rfl
  rw [q2, ← enum_nums] at c2
  -- the raised ones
  have c3 := loopF_fold (f := inc) (enc := pd) (P := fun f ss r => (∀ p ∈ ss, 0 ≤ p.2 ∧ p.2 < f.length) ∧ ∃ o6 o7, r = [vi N, pl ps, some ⟨.val, false, .int ps.sum⟩, some ⟨.own, false, li f⟩, none, some ⟨.own, false, .lst ((srt N ps).map pd)⟩, o6, o7])
    (step := stepF F (.tup [(.nm 7),(.nm 6)]) [.augs .add 3 (.var 6) (.int 1)]) (fun f s ss r ⟨hf, o6, o7, hr⟩ => by
      subst hr
      obtain ⟨a1, a2⟩ := hf s (by simp [R.bind, R.bindS, lift, ltD, truD, runDef, entry, evS, retE, evE, evG, evT, evL, evA, evO, evF, evC, evSc, argE, opd, op1, op2, opL, res, resL, trans, tst, truO, getS, putS, newS, Ow.fl, binD, cmpD, cmpV, notD, negD, idxV, idxD, place, callR, refs, nodupN, argSlots, backArgs, outs, keepP, bindT, bindTs, varE, varT, setR, setD, biD, augR, augsR, itemR, augV, ownO, unlS])
      have a3 : s.2.toNat < f.length := by omega
      refine ⟨_, ?_, fun p hp => by rw [inc_len]; exact hf p (by simp [R.bind, R.bindS, lift, ltD, truD, runDef, entry, evS, retE, evE, evG, evT, evL, evA, evO, evF, evC, evSc, argE, opd, op1, op2, opL, res, resL, trans, tst, truO, getS, putS, newS, Ow.fl, binD, cmpD, cmpV, notD, negD, idxV, idxD, place, callR, refs, nodupN, argSlots, backArgs, outs, keepP, bindT, bindTs, varE, varT, setR, setD, biD, augR, augsR, itemR, augV, ownO, unlS, hp]), some ⟨.val, false, .int s.2⟩, some ⟨.val, false, .int s.1⟩, rfl⟩
      simp [R.bind, R.bindS, lift, ltD, truD, runDef, entry, evS, retE, evE, evG, evT, evL, evA, evO, evF, evC, evSc, argE, opd, op1, op2, opL, res, resL, trans, tst, truO, getS, putS, newS, Ow.fl, binD, cmpD, cmpV, notD, negD, idxV, idxD, place, callR, refs, nodupN, argSlots, backArgs, outs, keepP, bindT, bindTs, varE, varT, setR, setD, biD, augR, augsR, itemR, augV, ownO, unlS, stepF, evSs, a1, a2, a3, inc, List.getD_eq_getElem?_getD]) (top N ps) (fl N ps)
      [vi N, pl ps, some ⟨.val, false, .int ps.sum⟩, some ⟨.own, false, li (fl N ps)⟩, none, some ⟨.own, false, .lst ((srt N ps).map pd)⟩, none, none] ⟨fun p hp => by have := top_rng hp; simpa [fl] using this, none, none, rfl⟩
  obtain ⟨r3, c3, _, o6, o7, rfl⟩ := c3
  refine (def_rt (v := .tup ((spl N ps).map D.int)) (r' := [vi N, pl ps, some ⟨.val, false, .int ps.sum⟩, some ⟨.own, false, li (spl N ps)⟩, none, some ⟨.own, false, .lst ((srt N ps).map pd)⟩, o6, o7]) rfl ?_).trans rfl
  refine (sq_nx (r' := [vi N, pl ps, none, none, none, none, none, none]) ?_).trans ?_
  · simp [R.bind, R.bindS, lift, ltD, truD, runDef, entry, evS, retE, evE, evG, evT, evL, evA, evO, evF, evC, evSc, argE, opd, op1, op2, opL, res, resL, trans, tst, truO, getS, putS, newS, Ow.fl, binD, cmpD, cmpV, notD, negD, idxV, idxD, place, callR, refs, nodupN, argSlots, backArgs, outs, keepP, bindT, bindTs, varE, varT, setR, setD, biD, augR, augsR, itemR, augV, ownO, unlS, Pr.d_split, evSs, lenD, peq, shal, seqD, consD, ints_map, hm, m1, s0, n0, z2]
  refine (sq_nx (r' := [vi N, pl ps, some ⟨.val, false, .int ps.sum⟩, none, none, none, none, none]) ?_).trans ?_
  · simp [R.bind, R.bindS, lift, ltD, truD, runDef, entry, evS, retE, evE, evG, evT, evL, evA, evO, evF, evC, evSc, argE, opd, op1, op2, opL, res, resL, trans, tst, truO, getS, putS, newS, Ow.fl, binD, cmpD, cmpV, notD, negD, idxV, idxD, place, callR, refs, nodupN, argSlots, backArgs, outs, keepP, bindT, bindTs, varE, varT, setR, setD, biD, augR, augsR, itemR, augV, ownO, unlS, seqD, consD, ints_map]
  refine (sq_nx (r' := [vi N, pl ps, some ⟨.val, false, .int ps.sum⟩, some ⟨.own, false, li (fl N ps)⟩, none, none, none, none]) ?_).trans ?_
  · refine (ev_asg (ev_lc (its := ps.map D.int) (ws := []) (r1 := [vi N, pl ps, some ⟨.val, false, .int ps.sum⟩, none, none, none, none, none]) (sv := [(4, none)]) ?_ (by have := h.len; rw [List.length_map]; omega) rfl (by exact c1)) (by simp [R.bind, R.bindS, lift, ltD, truD, runDef, entry, evS, retE, evE, evG, evT, evL, evA, evO, evF, evC, evSc, argE, opd, op1, op2, opL, res, resL, trans, tst, truO, getS, putS, newS, Ow.fl, binD, cmpD, cmpV, notD, negD, idxV, idxD, place, callR, refs, nodupN, argSlots, backArgs, outs, keepP, bindT, bindTs, varE, varT, setR, setD, biD, augR, augsR, itemR, augV, ownO, unlS, backAll, unlend])).trans ?_
    · simp [R.bind, R.bindS, lift, ltD, truD, runDef, entry, evS, retE, evE, evG, evT, evL, evA, evO, evF, evC, evSc, argE, opd, op1, op2, opL, res, resL, trans, tst, truO, getS, putS, newS, Ow.fl, binD, cmpD, cmpV, notD, negD, idxV, idxD, place, callR, refs, nodupN, argSlots, backArgs, outs, keepP, bindT, bindTs, varE, varT, setR, setD, biD, augR, augsR, itemR, augV, ownO, unlS, seqD]
    · simp [R.bind, R.bindS, lift, ltD, truD, runDef, entry, evS, retE, evE, evG, evT, evL, evA, evO, evF, evC, evSc, argE, opd, op1, op2, opL, res, resL, trans, tst, truO, getS, putS, newS, Ow.fl, binD, cmpD, cmpV, notD, negD, idxV, idxD, place, callR, refs, nodupN, argSlots, backArgs, outs, keepP, bindT, bindTs, varE, varT, setR, setD, biD, augR, augsR, itemR, augV, ownO, unlS, backAll, unlend]
  refine (sq_nx (r' := [vi N, pl ps, some ⟨.val, false, .int ps.sum⟩, some ⟨.own, false, li (fl N ps)⟩, none, some ⟨.own, false, .lst ((srt N ps).map pd)⟩, none, none]) ?_).trans ?_
  · refine (ev_asg (v := (.own, .lst ((srt N ps).map pd))) (r1 := [vi N, pl ps, some ⟨.val, false, .int ps.sum⟩, some ⟨.own, false, li (fl N ps)⟩, none, none, none, none]) ((ev_gn (its := enumD 0 (ps.map D.int)) (ws := []) (r1 := [vi N, pl ps, some ⟨.val, false, .int ps.sum⟩, some ⟨.own, false, li (fl N ps)⟩, none, none, none, none]) (sv := [(6, none), (4, none)]) rfl ?_ (by have := h.len; rw [len_enum, List.length_map]; omega) rfl (by exact c2)).trans ?_) (by simp [R.bind, R.bindS, lift, ltD, truD, runDef, entry, evS, retE, evE, evG, evT, evL, evA, evO, evF, evC, evSc, argE, opd, op1, op2, opL, res, resL, trans, tst, truO, getS, putS, newS, Ow.fl, binD, cmpD, cmpV, notD, negD, idxV, idxD, place, callR, refs, nodupN, argSlots, backArgs, outs, keepP, bindT, bindTs, varE, varT, setR, setD, biD, augR, augsR, itemR, augV, ownO, unlS])).trans ?_
    · simp [R.bind, R.bindS, lift, ltD, truD, runDef, entry, evS, retE, evE, evG, evT, evL, evA, evO, evF, evC, evSc, argE, opd, op1, op2, opL, res, resL, trans, tst, truO, getS, putS, newS, Ow.fl, binD, cmpD, cmpV, notD, negD, idxV, idxD, place, callR, refs, nodupN, argSlots, backArgs, outs, keepP, bindT, bindTs, varE, varT, setR, setD, biD, augR, augsR, itemR, augV, ownO, unlS, seqD]
    · simp only [gnD, consD, sort_pairs]
      simp [R.bind, R.bindS, lift, ltD, truD, runDef, entry, evS, retE, evE, evG, evT, evL, evA, evO, evF, evC, evSc, argE, opd, op1, op2, opL, res, resL, trans, tst, truO, getS, putS, newS, Ow.fl, binD, cmpD, cmpV, notD, negD, idxV, idxD, place, callR, refs, nodupN, argSlots, backArgs, outs, keepP, bindT, bindTs, varE, varT, setR, setD, biD, augR, augsR, itemR, augV, ownO, unlS, backAll, unlend, srt]
    · simp [R.bind, R.bindS, lift, ltD, truD, runDef, entry, evS, retE, evE, evG, evT, evL, evA, evO, evF, evC, evSc, argE, opd, op1, op2, opL, res, resL, trans, tst, truO, getS, putS, newS, Ow.fl, binD, cmpD, cmpV, notD, negD, idxV, idxD, place, callR, refs, nodupN, argSlots, backArgs, outs, keepP, bindT, bindTs, varE, varT, setR, setD, biD, augR, augsR, itemR, augV, ownO, unlS]
  refine (sq_nx (r' := [vi N, pl ps, some ⟨.val, false, .int ps.sum⟩, some ⟨.own, false, li (spl N ps)⟩, none, some ⟨.own, false, .lst ((srt N ps).map pd)⟩, o6, o7]) ?_).trans ?_
  · refine (ev_for (r1 := [vi N, pl ps, some ⟨.val, false, .int ps.sum⟩, some ⟨.own, false, li (fl N ps)⟩, none, some ⟨.own, false, .lst ((srt N ps).map pd)⟩, none, none]) (its := (top N ps).map pd) (ws := []) ?_ c3).trans ?_
    · have sl := slice_top h hS
      simp [R.bind, R.bindS, lift, ltD, truD, runDef, entry, evS, retE, evE, evG, evT, evL, evA, evO, evF, evC, evSc, argE, opd, op1, op2, opL, res, resL, trans, tst, truO, getS, putS, newS, Ow.fl, binD, cmpD, cmpV, notD, negD, idxV, idxD, place, callR, refs, nodupN, argSlots, backArgs, outs, keepP, bindT, bindTs, varE, varT, setR, setD, biD, augR, augsR, itemR, augV, ownO, unlS, seqD, consD, ints_map, partE, isNonE, slcD, sl]
    · simp [R.bind, R.bindS, lift, ltD, truD, runDef, entry, evS, retE, evE, evG, evT, evL, evA, evO, evF, evC, evSc, argE, opd, op1, op2, opL, res, resL, trans, tst, truO, getS, putS, newS, Ow.fl, binD, cmpD, cmpV, notD, negD, idxV, idxD, place, callR, refs, nodupN, argSlots, backArgs, outs, keepP, bindT, bindTs, varE, varT, setR, setD, biD, augR, augsR, itemR, augV, ownO, unlS, unlend]
      rfl
  · refine sq_rt ?_
    simp [R.bind, R.bindS, lift, ltD, truD, runDef, entry, evS, retE, evE, evG, evT, evL, evA, evO, evF, evC, evSc, argE, opd, op1, op2, opL, res, resL, trans, tst, truO, getS, putS, newS, Ow.fl, binD, cmpD, cmpV, notD, negD, idxV, idxD, place, callR, refs, nodupN, argSlots, backArgs, outs, keepP, bindT, bindTs, varE, varT, setR, setD, biD, augR, augsR, itemR, augV, ownO, unlS, seqD, consD]
end VS.K1
end

section
set_option autoImplicit false
set_option linter.all false
namespace VS.K1
open VS
abbrev w (d : D) : Option Slot := some ⟨.val, false, d⟩
abbrev dc (a b c : Int) : Option Slot := some ⟨.own, false, dic a b c⟩
/-- a share in lowest terms, small -/
structure Sh (s : Int × Int) : Prop where
  low : Low s
  bd : Bd 20 s
theorem c_one (a b c : Int) : ∃ (s : Int × Int) (a' b' c' : Int), Sh s ∧ C FU 59 22 [di a b c] = .ret .val (rd s) [di a' b' c'] := by
  obtain ⟨u, v, a', b', c', h1, h2, e⟩ := t_one a b c
  exact ⟨red (u - 20) (1 + v), a', b', c', ⟨red_low (by omega), red_bd (by omega) (by omega) (by omega)⟩, e 58 (by decide)⟩
theorem r_roll (a b c m : Int) (h : 0 < m) (h2 : m ≤ 100000000) : ∃ v a' b' c' : Int, (0 ≤ v ∧ v < m) ∧ C FU 59 14 [di a b c, vi m] = .ret .val (.int v) [di a' b' c', vi m] := by
  obtain ⟨v, a', b', c', h1, h2, e⟩ := c_roll a b c m h h2
  exact ⟨v, a', b', c', ⟨h1, h2⟩, e 58⟩
section
variable {s t u : Int × Int} (hs : Sh s) (ht : Sh t)
include hs
theorem Sh.s1 : Sm s.1 := (hs.bd.sm (by decide)).1
theorem Sh.s2 : Sm s.2 := (hs.bd.sm (by decide)).2
theorem Sh.p : 0 < s.2 := hs.low.1
theorem Sh.z : s.2 ≠ 0 := by have := hs.low.1; omega
end
theorem c_plus {s t : Int × Int} {A : Int} (hs : Bd A s) (ht : Bd A t) (hA : A < 2 ^ 31) : C FU 59 2 [vs s.1 s.2, vs t.1 t.2] = .ret .val (rd (sadd s t)) [vs s.1 s.2, vs t.1 t.2] :=
  t_plus (n := 57) (hs.sm hA).2 (hs.sm hA).1 (ht.sm hA).2 (ht.sm hA).1 (by have := hs.2; omega) (by have := ht.2; omega)
theorem c_minus {s t : Int × Int} {A : Int} (hs : Bd A s) (ht : Bd A t) (hA : A < 2 ^ 31) : C FU 59 3 [vs s.1 s.2, vs t.1 t.2] = .ret .val (rd (ssub s t)) [vs s.1 s.2, vs t.1 t.2] :=
  t_minus (n := 57) (hs.sm hA).2 (hs.sm hA).1 (ht.sm hA).2 (ht.sm hA).1 (by have := hs.2; omega) (by have := ht.2; omega)
theorem c_times {s t : Int × Int} {A : Int} (hs : Bd A s) (ht : Bd A t) (hA : A < 2 ^ 31) : C FU 59 4 [vs s.1 s.2, vs t.1 t.2] = .ret .val (rd (smul s t)) [vs s.1 s.2, vs t.1 t.2] :=
  t_times (n := 57) (hs.sm hA).2 (hs.sm hA).1 (ht.sm hA).2 (ht.sm hA).1 (by have := hs.2; omega) (by have := ht.2; omega)
theorem Bd.mono {A B : Int} {s : Int × Int} (h : Bd A s) (l : A ≤ B) : Bd B s := by
  obtain ⟨⟨h1, h2⟩, h3, h4⟩ := h
  refine ⟨⟨?_, ?_⟩, h3, ?_⟩ <;> omega
theorem Sh.prod {s t : Int × Int} (hs : Sh s) (ht : Sh t) : (s.2 * t.2).natAbs < 2 ^ 28 := by
  have m := mul_bd (a := s.2) (b := t.2) (A := 20) (B := 20) ⟨by have := hs.p; omega, hs.bd.2.2⟩ ⟨by have := ht.p; omega, ht.bd.2.2⟩
  omega
theorem c_ladd {s t : Int × Int} (hs : Sh s) (ht : Sh t) : C FU 59 19 [vs s.1 s.2, vs t.1 t.2] = .ret .val (rd (sadd s t)) [vs s.1 s.2, vs t.1 t.2] := t_ladd (n := 58) hs.s2 hs.s1 ht.s2 ht.s1 hs.z ht.z (hs.prod ht) (by decide)
theorem c_lmul {s t : Int × Int} (hs : Sh s) (ht : Sh t) : C FU 59 20 [vs s.1 s.2, vs t.1 t.2] = .ret .val (rd (smul s t)) [vs s.1 s.2, vs t.1 t.2] := t_lmul (n := 58) hs.s2 hs.s1 ht.s2 ht.s1 hs.z ht.z (hs.prod ht) (by decide)
theorem c_share {a b : Int} (hb : b ≠ 0) (h : b.natAbs < 2 ^ 28) : C FU 59 0 [vi a, vi b] = .ret .val (rs a b) [vi a, vi b] := t_share 58 hb (Nat.lt_trans h (by decide)) (by omega)
theorem c_share0 {a : Int} : C FU 59 0 [vi a, vi 0] = .ex 1 [vi a, vi 0] := t_share0 58
theorem c_lshare {a b : Int} (hb : b ≠ 0) (h : b.natAbs < 2 ^ 28) : C FU 59 18 [vi a, vi b] = .ret .val (rs a b) [vi a, vi b] := t_lshare (n := 58) hb h (by decide) (by omega)
def body : List St := match Pr.d_law.body with
  | .for1 _ _ b :: _ => b
  | _ => []
variable {F : Fns} (hc : F.call = callN Pr.prog FU 59)
include hc
theorem p1 (S : Option Slot) (a b c : Int) : ∃ T U a' b' c' : Int, U.natAbs < 100 ∧ evSs F body [S, dc a b c, none, none, none, none, none, none, none, none, none, none, none, none, none, none, none, none, none, none, none, none] =
    evSs F (body.drop 2) [S, dc a' b' c', w (.int T), w (.int U), none, none, none, none, none, none, none, none, none, none, none, none, none, none, none, none, none, none] := by
  obtain ⟨v1, a1, b1, c1, h1, e1⟩ := r_roll a b c 400 (by decide) (by decide)
  obtain ⟨v2, a2, b2, c2, h2, e2⟩ := r_roll a1 b1 c1 60 (by decide) (by decide)
  unfold C at e1 e2
  refine ⟨v1 - 200, v2 - 30, a2, b2, c2, by omega, ?_⟩
  refine (sq_nx (r' := [S, dc a2 b2 c2, w (.int (v1 - 200)), w (.int (v2 - 30)), none, none, none, none, none, none, none, none, none, none, none, none, none, none, none, none, none, none]) ?_).trans ?_
  · simp [R.bind, R.bindS, lift, ltD, truD, runDef, entry, evS, retE, evE, evG, evT, evL, evA, evO, evF, evC, evSc, argE, opd, op1, op2, opL, res, resL, trans, tst, truO, getS, putS, newS, Ow.fl, binD, cmpD, cmpV, notD, negD, idxV, idxD, place, callR, refs, nodupN, argSlots, backArgs, outs, keepP, bindT, bindTs, varE, varT, setR, setD, biD, augR, augsR, itemR, augV, ownO, unlS, hc, e1, e2]
  refine (sq_nx (r' := [S, dc a2 b2 c2, w (.int (v1 - 200)), w (.int (v2 - 30)), none, none, none, none, none, none, none, none, none, none, none, none, none, none, none, none, none, none]) ?_).trans rfl
  generalize v1 - 200 = T
  by_cases z : v2 - 30 = 0
  · rw [z]
    have h := c_share0 (a := T)
    unfold C at h
    simp [R.bind, R.bindS, lift, ltD, truD, runDef, entry, evS, retE, evE, evG, evT, evL, evA, evO, evF, evC, evSc, argE, opd, op1, op2, opL, res, resL, trans, tst, truO, getS, putS, newS, Ow.fl, binD, cmpD, cmpV, notD, negD, idxV, idxD, place, callR, refs, nodupN, argSlots, backArgs, outs, keepP, bindT, bindTs, varE, varT, setR, setD, biD, augR, augsR, itemR, augV, ownO, unlS, hc, h, peq, shal, evSs]
  · have h1 := c_share (a := T) z (by omega)
    have h2 := c_lshare (a := T) z (by omega)
    unfold C at h1 h2
    have z2 : ((v2 - 30) == 0) = false := by simpa using z
    simp [R.bind, R.bindS, lift, ltD, truD, runDef, entry, evS, retE, evE, evG, evT, evL, evA, evO, evF, evC, evSc, argE, opd, op1, op2, opL, res, resL, trans, tst, truO, getS, putS, newS, Ow.fl, binD, cmpD, cmpV, notD, negD, idxV, idxD, place, callR, refs, nodupN, argSlots, backArgs, outs, keepP, bindT, bindTs, varE, varT, setR, setD, biD, augR, augsR, itemR, augV, ownO, unlS, hc, h1, h2, peq, peqL, shal, evSs, z2]
end VS.K1
namespace VS.K1
open VS
variable {F : Fns} (hc : F.call = callN Pr.prog FU 59)
include hc
theorem p2 (S : Option Slot) (a b c : Int) (x y : Option Slot) : ∃ (s t u : Int × Int) (a' b' c' : Int), Sh s ∧ Sh t ∧ Sh u ∧ evSs F (body.drop 2) [S, dc a b c, x, y, none, none, none, none, none, none, none, none, none, none, none, none, none, none, none, none, none, none] =
    evSs F (body.drop 5) [S, dc a' b' c', x, y, w (rd s), w (rd t), w (rd u), none, none, none, none, none, none, none, none, none, none, none, none, none, none, none] := by
  obtain ⟨s, a1, b1, c1, hs, e1⟩ := c_one a b c
  obtain ⟨t, a2, b2, c2, ht, e2⟩ := c_one a1 b1 c1
  obtain ⟨u, a3, b3, c3, hu, e3⟩ := c_one a2 b2 c2
  refine ⟨s, t, u, a3, b3, c3, hs, ht, hu, ?_⟩
  have bst := hs.bd.add ht.bd
  have bp1 := hs.bd.mul ht.bd
  have bp2 := hs.bd.mul hu.bd
  have btu := ht.bd.add hu.bd
  have k1 := c_plus hs.bd ht.bd (by decide)
  have k2 := c_ladd hs ht
  have k3 := c_minus bst (ht.bd.mono (by decide)) (by decide)
  have k4 := c_times hs.bd ht.bd (by decide)
  have k5 := c_lmul hs ht
  have k6 := c_plus ht.bd hu.bd (by decide)
  have k7 := c_times (hs.bd.mono (by decide)) btu (by decide)
  have k8 := c_times hs.bd hu.bd (by decide)
  have k9 := c_plus bp1 bp2 (by decide)
  have q1 := add_sub hs.low ht.p
  have q2 := mul_add' hs.p ht.p hu.p
  rw [q1] at k3
  rw [q2] at k7
  unfold C at *
  refine (sq_nx (r' := [S, dc a3 b3 c3, x, y, w (rd s), w (rd t), w (rd u), none, none, none, none, none, none, none, none, none, none, none, none, none, none, none]) ?_).trans ?_
  · simp [R.bind, R.bindS, lift, ltD, truD, runDef, entry, evS, retE, evE, evG, evT, evL, evA, evO, evF, evC, evSc, argE, opd, op1, op2, opL, res, resL, trans, tst, truO, getS, putS, newS, Ow.fl, binD, cmpD, cmpV, notD, negD, idxV, idxD, place, callR, refs, nodupN, argSlots, backArgs, outs, keepP, bindT, bindTs, varE, varT, setR, setD, biD, augR, augsR, itemR, augV, ownO, unlS, hc, e1, e2, e3]
  refine (sq_nx (r' := [S, dc a3 b3 c3, x, y, w (rd s), w (rd t), w (rd u), none, none, none, none, none, none, none, none, none, none, none, none, none, none, none]) ?_).trans ?_
  · generalize hst : sadd s t = st at *
    generalize htu : sadd t u = tu at *
    generalize hpp : sadd (smul s t) (smul s u) = pp at *
    generalize hp1 : smul s t = pq at *
    generalize hp2 : smul s u = pr at *
    simp [R.bind, R.bindS, lift, ltD, truD, runDef, entry, evS, retE, evE, evG, evT, evL, evA, evO, evF, evC, evSc, argE, opd, op1, op2, opL, res, resL, trans, tst, truO, getS, putS, newS, Ow.fl, binD, cmpD, cmpV, notD, negD, idxV, idxD, place, callR, refs, nodupN, argSlots, backArgs, outs, keepP, bindT, bindTs, varE, varT, setR, setD, biD, augR, augsR, itemR, augV, ownO, unlS, hc, k1, k2, k3, k4, k5, k6, k7, k8, k9, peq, peqL, shal, evSs]
  refine (sq_nx (r' := [S, dc a3 b3 c3, x, y, w (rd s), w (rd t), w (rd u), none, none, none, none, none, none, none, none, none, none, none, none, none, none, none]) ?_).trans rfl
  have h : C FU 59 5 [vs s.1 s.2, vs t.1 t.2] = _ := t_parted (n := 57) hs.s2 hs.s1 ht.s2 ht.s1 hs.z ht.z
  unfold C at h
  have m1 := fun j => hs.s1.m (j := j)
  have m2 := fun j => hs.s2.m (j := j)
  by_cases z : t.1 = 0
  · rw [if_pos z] at h
    have z2 : (t.1 == 0) = true := by simpa using z
    simp [R.bind, R.bindS, lift, ltD, truD, runDef, entry, evS, retE, evE, evG, evT, evL, evA, evO, evF, evC, evSc, argE, opd, op1, op2, opL, res, resL, trans, tst, truO, getS, putS, newS, Ow.fl, binD, cmpD, cmpV, notD, negD, idxV, idxD, place, callR, refs, nodupN, argSlots, backArgs, outs, keepP, bindT, bindTs, varE, varT, setR, setD, biD, augR, augsR, itemR, augV, ownO, unlS, hc, h, z2, peq, shal, evSs]
  · rw [if_neg z] at h
    have h2 := c_lshare (a := s.1 * t.2) (b := s.2 * t.1) (Int.mul_ne_zero hs.z z) (by
      have m := mul_bd (a := s.2) (b := t.1) (A := 20) (B := 20) ⟨by have := hs.p; omega, hs.bd.2.2⟩ ht.bd.1
      omega)
    unfold C at h2
    have z2 : (t.1 == 0) = false := by simpa using z
    simp [R.bind, R.bindS, lift, ltD, truD, runDef, entry, evS, retE, evE, evG, evT, evL, evA, evO, evF, evC, evSc, argE, opd, op1, op2, opL, res, resL, trans, tst, truO, getS, putS, newS, Ow.fl, binD, cmpD, cmpV, notD, negD, idxV, idxD, place, callR, refs, nodupN, argSlots, backArgs, outs, keepP, bindT, bindTs, varE, varT, setR, setD, biD, augR, augsR, itemR, augV, ownO, unlS, hc, h, h2, peq, peqL, shal, evSs, z2, m1, m2]
end VS.K1
end

section
set_option autoImplicit false
set_option linter.all false
namespace VS.K1
open VS
variable {F : Fns} (hc : F.call = callN Pr.prog FU 59)
include hc
theorem p3 (S X Y T U : Option Slot) {s : Int × Int} (hs : Sh s) (a b c : Int) : ∃ l h m : D, evSs F (body.drop 5) [S, dc a b c, X, Y, w (rd s), T, U, none, none, none, none, none, none, none, none, none, none, none, none, none, none, none] =
    evSs F (body.drop 7) [S, dc a b c, X, Y, w (rd s), T, U, w l, w h, w m, none, none, none, none, none, none, none, none, none, none, none, none] := by
  have e1 : C FU 59 7 [vs s.1 s.2] = _ := t_below (n := 58) hs.s2 hs.p
  have e2 : C FU 59 8 [vs s.1 s.2] = _ := t_above (n := 58) hs.s2 hs.p
  have e3 : C FU 59 9 [vs s.1 s.2] = _ := t_nearest (n := 58) hs.s2 hs.p
  have f1 := fdiv_spec (a := s.1) hs.p
  have f2 := fdiv_spec (a := 0 - s.1) hs.p
  have f3 := fdiv_spec (a := 2 * s.1 + s.2) (b := 2 * s.2) (by have := hs.p; omega)
  have m1 := fun i => hs.s2.mr (i := i)
  have m2 := fun i => Sm.two.m (j := i)
  unfold C at e1 e2 e3
  refine ⟨.int (s.1.fdiv s.2), .int (0 - (0 - s.1).fdiv s.2), .int ((2 * s.1 + s.2).fdiv (2 * s.2)), ?_⟩
  refine (sq_nx (r' := [S, dc a b c, X, Y, w (rd s), T, U, w (.int (s.1.fdiv s.2)), w (.int (0 - (0 - s.1).fdiv s.2)), w (.int ((2 * s.1 + s.2).fdiv (2 * s.2))), none, none, none, none, none, none, none, none, none, none, none, none]) ?_).trans ?_
  · simp [R.bind, R.bindS, lift, ltD, truD, runDef, entry, evS, retE, evE, evG, evT, evL, evA, evO, evF, evC, evSc, argE, opd, op1, op2, opL, res, resL, trans, tst, truO, getS, putS, newS, Ow.fl, binD, cmpD, cmpV, notD, negD, idxV, idxD, place, callR, refs, nodupN, argSlots, backArgs, outs, keepP, bindT, bindTs, varE, varT, setR, setD, biD, augR, augsR, itemR, augV, ownO, unlS, hc, e1, e2, e3]
  refine (sq_nx (r' := [S, dc a b c, X, Y, w (rd s), T, U, w (.int (s.1.fdiv s.2)), w (.int (0 - (0 - s.1).fdiv s.2)), w (.int ((2 * s.1 + s.2).fdiv (2 * s.2))), none, none, none, none, none, none, none, none, none, none, none, none]) ?_).trans rfl
  generalize s.1.fdiv s.2 = l at *
  generalize (0 - s.1).fdiv s.2 = k at *
  generalize (2 * s.1 + s.2).fdiv (2 * s.2) = m at *
  have g1 : l * s.2 ≤ s.1 := f1.1
  have g2 : s.1 < (l + 1) * s.2 := f1.2
  have g3 : (0 - k - 1) * s.2 < s.1 := by
    have : (0 - k - 1) * s.2 = - ((k + 1) * s.2) := by grind
    omega
  have g4 : s.1 ≤ (0 - k) * s.2 := by
    have : (0 - k) * s.2 = - (k * s.2) := by grind
    omega
  have g5 : (2 * m - 1) * s.2 ≤ 2 * s.1 := by
    have : (2 * m - 1) * s.2 = m * (2 * s.2) - s.2 := by grind
    omega
  have g6 : 2 * s.1 < (2 * m + 1) * s.2 := by
    have : (2 * m + 1) * s.2 = (m + 1) * (2 * s.2) - s.2 := by grind
    omega
  generalize hk : 0 - k = kk at *
  simp [R.bind, R.bindS, lift, ltD, truD, runDef, entry, evS, retE, evE, evG, evT, evL, evA, evO, evF, evC, evSc, argE, opd, op1, op2, opL, res, resL, trans, tst, truO, getS, putS, newS, Ow.fl, binD, cmpD, cmpV, notD, negD, idxV, idxD, place, callR, refs, nodupN, argSlots, backArgs, outs, keepP, bindT, bindTs, varE, varT, setR, setD, biD, augR, augsR, itemR, augV, ownO, unlS, m1, m2, g1, g2, g3, g4, g5, g6, evSs]
omit hc in
theorem digits_ok : ∀ (f n : Nat) (acc : List Nat), (∀ x ∈ acc, x < 1114112) → ∀ x ∈ digitsF f n acc, x < 1114112
  | 0, n, acc, h => h
  | f + 1, n, acc, h => by
    unfold digitsF
    split
    · intro x hx
      rcases List.mem_cons.1 hx with rfl | hx
      · omega
      · exact h x hx
    · refine digits_ok f _ _ fun x hx => ?_
      rcases List.mem_cons.1 hx with rfl | hx
      · omega
      · exact h x hx
omit hc in
theorem intText_ok (i : Int) : ∀ x ∈ intText i, x < 1114112 := by
  have := digits_ok (i.natAbs + 1) i.natAbs [] (by simp [R.bind, R.bindS, lift, ltD, truD, runDef, entry, evS, retE, evE, evG, evT, evL, evA, evO, evF, evC, evSc, argE, opd, op1, op2, opL, res, resL, trans, tst, truO, getS, putS, newS, Ow.fl, binD, cmpD, cmpV, notD, negD, idxV, idxD, place, callR, refs, nodupN, argSlots, backArgs, outs, keepP, bindT, bindTs, varE, varT, setR, setD, biD, augR, augsR, itemR, augV, ownO, unlS])
  unfold intText natText
  split
  · intro x hx
    rcases List.mem_cons.1 hx with rfl | hx
    · omega
    · exact this x hx
  · exact this
theorem saveN {r : Rho} {i : Nat} (h : r[i]? = some none) : saveAll r (namesT (.nm i)) = some [(i, none)] := by simp [R.bind, R.bindS, lift, ltD, truD, runDef, entry, evS, retE, evE, evG, evT, evL, evA, evO, evF, evC, evSc, argE, opd, op1, op2, opL, res, resL, trans, tst, truO, getS, putS, newS, Ow.fl, binD, cmpD, cmpV, notD, negD, idxV, idxD, place, callR, refs, nodupN, argSlots, backArgs, outs, keepP, bindT, bindTs, varE, varT, setR, setD, biD, augR, augsR, itemR, augV, ownO, unlS, namesT, saveAll, h]
theorem p4 (S X Y T U l h m : Option Slot) (Sv : Option Slot) (a b c : Int) : ∃ (rows : List (Int × Int)) (a' b' c' : Int), rows.length ≤ 5 ∧ (∀ s ∈ rows, Sh s) ∧ evSs F (body.drop 7) [S, dc a b c, X, Y, Sv, T, U, l, h, m, none, none, none, none, none, none, none, none, none, none, none, none] =
    evSs F (body.drop 8) [S, dc a' b' c', X, Y, Sv, T, U, l, h, m, w (.lst (rows.map rd)), w (rd (0, 1)), none, none, none, none, none, none, none, none, none, none] := by
  obtain ⟨v, a1, b1, c1, hv, e1⟩ := r_roll a b c 6 (by decide) (by decide)
  unfold C at e1
  have lp := loopC_any (ns := [12]) (step := stepC F (.call 22 [(.var 1)]) (.nm 12) []) (P := fun r => ∃ a b c, r = [S, dc a b c, X, Y, Sv, T, U, l, h, m, none, none, none, none, none, none, none, none, none, none, none, none]) (Q := fun d => ∃ s, Sh s ∧ d = rd s) (fun d r ⟨a, b, c, hr⟩ => by
    subst hr
    obtain ⟨s, a2, b2, c2, hs, e⟩ := c_one a b c
    unfold C at e
    refine ⟨rd s, [S, dc a2 b2 c2, X, Y, Sv, T, U, l, h, m, none, none, w d, none, none, none, none, none, none, none, none, none], ?_, ⟨s, hs, rfl⟩, a2, b2, c2, rfl⟩
    simp [R.bind, R.bindS, lift, ltD, truD, runDef, entry, evS, retE, evE, evG, evT, evL, evA, evO, evF, evC, evSc, argE, opd, op1, op2, opL, res, resL, trans, tst, truO, getS, putS, newS, Ow.fl, binD, cmpD, cmpV, notD, negD, idxV, idxD, place, callR, refs, nodupN, argSlots, backArgs, outs, keepP, bindT, bindTs, varE, varT, setR, setD, biD, augR, augsR, itemR, augV, ownO, unlS, stepC, turnC, hc, e]) (rangeD 0 v) [S, dc a1 b1 c1, X, Y, Sv, T, U, l, h, m, none, none, none, none, none, none, none, none, none, none, none, none] ⟨_, _, _, rfl⟩
  obtain ⟨xs, r', e2, lx, qx, a2, b2, c2, rfl⟩ := lp
  have : ∀ xs : List D, (∀ x ∈ xs, ∃ s, Sh s ∧ x = rd s) → ∃ rows : List (Int × Int), xs = rows.map rd ∧ ∀ s ∈ rows, Sh s := by
    intro xs
    induction xs with
    | nil => exact fun _ => ⟨[], rfl, by simp [R.bind, R.bindS, lift, ltD, truD, runDef, entry, evS, retE, evE, evG, evT, evL, evA, evO, evF, evC, evSc, argE, opd, op1, op2, opL, res, resL, trans, tst, truO, getS, putS, newS, Ow.fl, binD, cmpD, cmpV, notD, negD, idxV, idxD, place, callR, refs, nodupN, argSlots, backArgs, outs, keepP, bindT, bindTs, varE, varT, setR, setD, biD, augR, augsR, itemR, augV, ownO, unlS]⟩
    | cons x xs ih =>
      intro hx
      obtain ⟨s, hs, rfl⟩ := hx x (by simp [R.bind, R.bindS, lift, ltD, truD, runDef, entry, evS, retE, evE, evG, evT, evL, evA, evO, evF, evC, evSc, argE, opd, op1, op2, opL, res, resL, trans, tst, truO, getS, putS, newS, Ow.fl, binD, cmpD, cmpV, notD, negD, idxV, idxD, place, callR, refs, nodupN, argSlots, backArgs, outs, keepP, bindT, bindTs, varE, varT, setR, setD, biD, augR, augsR, itemR, augV, ownO, unlS])
      obtain ⟨rows, rfl, hr⟩ := ih fun y hy => hx y (by simp [R.bind, R.bindS, lift, ltD, truD, runDef, entry, evS, retE, evE, evG, evT, evL, evA, evO, evF, evC, evSc, argE, opd, op1, op2, opL, res, resL, trans, tst, truO, getS, putS, newS, Ow.fl, binD, cmpD, cmpV, notD, negD, idxV, idxD, place, callR, refs, nodupN, argSlots, backArgs, outs, keepP, bindT, bindTs, varE, varT, setR, setD, biD, augR, augsR, itemR, augV, ownO, unlS, hy])
      refine ⟨s :: rows, rfl, fun t ht => ?_⟩
      rcases List.mem_cons.1 ht with rfl | ht
      · exact hs
      · exact hr t ht
  obtain ⟨rows, rfl, hrows⟩ := this xs qx
  have hl : rows.length ≤ 5 := by
    rw [List.length_map] at lx
    simp [R.bind, R.bindS, lift, ltD, truD, runDef, entry, evS, retE, evE, evG, evT, evL, evA, evO, evF, evC, evSc, argE, opd, op1, op2, opL, res, resL, trans, tst, truO, getS, putS, newS, Ow.fl, binD, cmpD, cmpV, notD, negD, idxV, idxD, place, callR, refs, nodupN, argSlots, backArgs, outs, keepP, bindT, bindTs, varE, varT, setR, setD, biD, augR, augsR, itemR, augV, ownO, unlS, rangeD] at lx
    omega
  refine ⟨rows, a2, b2, c2, hl, hrows, ?_⟩
  refine sq_nx (ev_unp (v := (.val, .tup [.lst (rows.map rd), rd (0, 1)])) (r1 := [S, dc a2 b2 c2, X, Y, Sv, T, U, l, h, m, none, none, none, none, none, none, none, none, none, none, none, none]) (ev_tup (evL_cons (v := (.own, .lst (rows.map rd))) (r1 := [S, dc a2 b2 c2, X, Y, Sv, T, U, l, h, m, none, none, none, none, none, none, none, none, none, none, none, none]) ((ev_lc (ws := []) (its := rangeD 0 v) (r1 := [S, dc a1 b1 c1, X, Y, Sv, T, U, l, h, m, none, none, none, none, none, none, none, none, none, none, none, none]) (sv := [(12, none)]) ?_ ?_ rfl (by exact e2)).trans rfl) (evL_cons (v := (.val, rd (0, 1))) ?_ evL_nil))) ?_)
  · have r1 : rngOk v = true := by
      simp [R.bind, R.bindS, lift, ltD, truD, runDef, entry, evS, retE, evE, evG, evT, evL, evA, evO, evF, evC, evSc, argE, opd, op1, op2, opL, res, resL, trans, tst, truO, getS, putS, newS, Ow.fl, binD, cmpD, cmpV, notD, negD, idxV, idxD, place, callR, refs, nodupN, argSlots, backArgs, outs, keepP, bindT, bindTs, varE, varT, setR, setD, biD, augR, augsR, itemR, augV, ownO, unlS, rngOk]
      omega
    simp [R.bind, R.bindS, lift, ltD, truD, runDef, entry, evS, retE, evE, evG, evT, evL, evA, evO, evF, evC, evSc, argE, opd, op1, op2, opL, res, resL, trans, tst, truO, getS, putS, newS, Ow.fl, binD, cmpD, cmpV, notD, negD, idxV, idxD, place, callR, refs, nodupN, argSlots, backArgs, outs, keepP, bindT, bindTs, varE, varT, setR, setD, biD, augR, augsR, itemR, augV, ownO, unlS, hc, e1, rng1, r1]
  · simp [R.bind, R.bindS, lift, ltD, truD, runDef, entry, evS, retE, evE, evG, evT, evL, evA, evO, evF, evC, evSc, argE, opd, op1, op2, opL, res, resL, trans, tst, truO, getS, putS, newS, Ow.fl, binD, cmpD, cmpV, notD, negD, idxV, idxD, place, callR, refs, nodupN, argSlots, backArgs, outs, keepP, bindT, bindTs, varE, varT, setR, setD, biD, augR, augsR, itemR, augV, ownO, unlS, rangeD]
    omega
  · simp [R.bind, R.bindS, lift, ltD, truD, runDef, entry, evS, retE, evE, evG, evT, evL, evA, evO, evF, evC, evSc, argE, opd, op1, op2, opL, res, resL, trans, tst, truO, getS, putS, newS, Ow.fl, binD, cmpD, cmpV, notD, negD, idxV, idxD, place, callR, refs, nodupN, argSlots, backArgs, outs, keepP, bindT, bindTs, varE, varT, setR, setD, biD, augR, augsR, itemR, augV, ownO, unlS]
  · simp [R.bind, R.bindS, lift, ltD, truD, runDef, entry, evS, retE, evE, evG, evT, evL, evA, evO, evF, evC, evSc, argE, opd, op1, op2, opL, res, resL, trans, tst, truO, getS, putS, newS, Ow.fl, binD, cmpD, cmpV, notD, negD, idxV, idxD, place, callR, refs, nodupN, argSlots, backArgs, outs, keepP, bindT, bindTs, varE, varT, setR, setD, biD, augR, augsR, itemR, augV, ownO, unlS]
/-- .. summed -/
theorem p5 (S X Y T U l h m Sv : Option Slot) {rows : List (Int × Int)} (hl : rows.length ≤ 5) (hr : ∀ s ∈ rows, Sh s) (a b c : Int) : ∃ o, evSs F (body.drop 8) [S, dc a b c, X, Y, Sv, T, U, l, h, m, w (.lst (rows.map rd)), w (rd (0, 1)), none, none, none, none, none, none, none, none, none, none] =
    evSs F (body.drop 9) [S, dc a b c, X, Y, Sv, T, U, l, h, m, w (.lst (rows.map rd)), w (rd (rows.foldl sadd (0, 1))), none, o, none, none, none, none, none, none, none, none] := by
  have hf : Few (0, 1) rows := by
    refine ⟨1, by decide, ⟨by decide, by decide⟩, ?_, fun s hs => (hr s hs).bd⟩
    have : rows.length = 0 ∨ rows.length = 1 ∨ rows.length = 2 ∨ rows.length = 3 ∨ rows.length = 4 ∨ rows.length = 5 := by omega
    rcases this with e | e | e | e | e | e <;> rw [e] <;> decide
  have loop := loopF_fold (f := sadd) (enc := rd) (P := fun t ss r => Few t ss ∧ (∀ s ∈ ss, Sh s) ∧ ∃ o, r = [S, dc a b c, X, Y, Sv, T, U, l, h, m, w (.lst (rows.map rd)), w (rd t), none, o, none, none, none, none, none, none, none, none]) (step := stepF F (.nm 13) [.asg 11 (.call 19 [(.var 11),(.var 13)])]) (fun t s ss r ⟨hf, hr, o, e⟩ => by
    subst e
    obtain ⟨hs, hn, ⟨a1, a2, a3⟩, ⟨b1, b2, b3⟩, bd⟩ := hf.next
    have hp : C FU 59 19 [vs t.1 t.2, vs s.1 s.2] = _ := t_ladd (n := 58) a2 a1 b2 b1 a3 b3 bd (by decide)
    unfold C at hp
    refine ⟨[S, dc a b c, X, Y, Sv, T, U, l, h, m, w (.lst (rows.map rd)), w (rd (sadd t s)), none, w (rd s), none, none, none, none, none, none, none, none], ?_, hn, fun u hu => hr u (by simp [R.bind, R.bindS, lift, ltD, truD, runDef, entry, evS, retE, evE, evG, evT, evL, evA, evO, evF, evC, evSc, argE, opd, op1, op2, opL, res, resL, trans, tst, truO, getS, putS, newS, Ow.fl, binD, cmpD, cmpV, notD, negD, idxV, idxD, place, callR, refs, nodupN, argSlots, backArgs, outs, keepP, bindT, bindTs, varE, varT, setR, setD, biD, augR, augsR, itemR, augV, ownO, unlS, hu]), _, rfl⟩
    simp [R.bind, R.bindS, lift, ltD, truD, runDef, entry, evS, retE, evE, evG, evT, evL, evA, evO, evF, evC, evSc, argE, opd, op1, op2, opL, res, resL, trans, tst, truO, getS, putS, newS, Ow.fl, binD, cmpD, cmpV, notD, negD, idxV, idxD, place, callR, refs, nodupN, argSlots, backArgs, outs, keepP, bindT, bindTs, varE, varT, setR, setD, biD, augR, augsR, itemR, augV, ownO, unlS, stepF, evSs, hc, hp]) rows (0, 1) [S, dc a b c, X, Y, Sv, T, U, l, h, m, w (.lst (rows.map rd)), w (rd (0, 1)), none, none, none, none, none, none, none, none, none, none] ⟨hf, hr, none, rfl⟩
  obtain ⟨r', er, _, _, o, rfl⟩ := loop
  refine ⟨o, sq_nx ((ev_for (r1 := [S, dc a b c, X, Y, Sv, T, U, l, h, m, w (.lst (rows.map rd)), w (rd (0, 1)), none, none, none, none, none, none, none, none, none, none]) (its := rows.map rd) (ws := []) ?_ (by exact er)).trans ?_)⟩
  · simp [R.bind, R.bindS, lift, ltD, truD, runDef, entry, evS, retE, evE, evG, evT, evL, evA, evO, evF, evC, evSc, argE, opd, op1, op2, opL, res, resL, trans, tst, truO, getS, putS, newS, Ow.fl, binD, cmpD, cmpV, notD, negD, idxV, idxD, place, callR, refs, nodupN, argSlots, backArgs, outs, keepP, bindT, bindTs, varE, varT, setR, setD, biD, augR, augsR, itemR, augV, ownO, unlS, seqD]
  · simp [R.bind, R.bindS, lift, ltD, truD, runDef, entry, evS, retE, evE, evG, evT, evL, evA, evO, evF, evC, evSc, argE, opd, op1, op2, opL, res, resL, trans, tst, truO, getS, putS, newS, Ow.fl, binD, cmpD, cmpV, notD, negD, idxV, idxD, place, callR, refs, nodupN, argSlots, backArgs, outs, keepP, bindT, bindTs, varE, varT, setR, setD, biD, augR, augsR, itemR, augV, ownO, unlS, unlend]
theorem p6 (S Y U l h m : Option Slot) {rows : List (Int × Int)} {T : Int} {s t : Int × Int} (hs : Sh s) (ht : Sh t) (hl : rows.length ≤ 5) (hr : ∀ s ∈ rows, Sh s) (o : Option Slot) (a b c : Int) : evSs F (body.drop 9) [S, dc a b c, w (.int T), Y, w (rd s), w (rd t), U, l, h, m, w (.lst (rows.map rd)), w (rd (rows.foldl sadd (0, 1))), none, o, none, none, none, none, none, none, none, none] =
    evSs F (body.drop 10) [S, dc a b c, w (.int T), Y, w (rd s), w (rd t), U, l, h, m, w (.lst (rows.map rd)), w (rd (rows.foldl sadd (0, 1))), none, o, none, none, none, none, none, none, none, none] := by
  have hf : Few (0, 1) rows := by
    refine ⟨1, by decide, ⟨by decide, by decide⟩, ?_, fun s hs => (hr s hs).bd⟩
    have : rows.length = 0 ∨ rows.length = 1 ∨ rows.length = 2 ∨ rows.length = 3 ∨ rows.length = 4 ∨ rows.length = 5 := by omega
    rcases this with e | e | e | e | e | e <;> rw [e] <;> decide
  have e1 : C FU 59 6 [vs s.1 s.2, vs t.1 t.2] = _ := t_less (n := 58) hs.s2 hs.s1 ht.s2 ht.s1 hs.z ht.z
  have e2 : C FU 59 21 [vs s.1 s.2, vs t.1 t.2] = _ := t_lless (n := 58) hs.s2 hs.s1 ht.s2 ht.s1 hs.z ht.z
  have e3 : C FU 59 10 [some ⟨.val, true, .lst (rows.map rd)⟩] = _ := t_sum 56 hf
  have e4 : C FU 59 1 [vi T] = _ := t_whole (n := 58)
  have p1 : s.1.natAbs < 1000 := by have := hs.bd.1; omega
  have p2 : s.2.natAbs < 1000 := by have := hs.bd.2; omega
  have e5 : C FU 59 11 [vs s.1 s.2] = _ := t_told (n := 58) p1 p2
  have l1 := log_ok p1
  have l2 := log_ok p2
  have i1 := intText_len p1
  have i2 := intText_len p2
  have f1 : few ((intText s.1).length + 1) = true := few_of (by omega)
  have f2 : few ((intText s.1).length + 1 + (intText s.2).length) = true := few_of (by omega)
  unfold C at e1 e2 e3 e4 e5
  generalize rows.foldl sadd (0, 1) = tot at *
  refine (sq_nx (r' := [S, dc a b c, w (.int T), Y, w (rd s), w (rd t), U, l, h, m, w (.lst (rows.map rd)), w (rd tot), none, o, none, none, none, none, none, none, none, none]) ?_).trans rfl
  have d1 := intText_ok s.1
  have d2 := intText_ok s.2
  by_cases z : s.2 = 1
  · have z2 : (s.2 == 1) = true := by simpa using z
    have : tsh s.1 s.2 = intText s.1 := by simp [R.bind, R.bindS, lift, ltD, truD, runDef, entry, evS, retE, evE, evG, evT, evL, evA, evO, evF, evC, evSc, argE, opd, op1, op2, opL, res, resL, trans, tst, truO, getS, putS, newS, Ow.fl, binD, cmpD, cmpV, notD, negD, idxV, idxD, place, callR, refs, nodupN, argSlots, backArgs, outs, keepP, bindT, bindTs, varE, varT, setR, setD, biD, augR, augsR, itemR, augV, ownO, unlS, tsh, z]
    rw [this] at e5
    have k : (∀ x, x ∈ intText s.1 → x < 1114112) = True := eq_true d1
    simp [R.bind, R.bindS, lift, ltD, truD, runDef, entry, evS, retE, evE, evG, evT, evL, evA, evO, evF, evC, evSc, argE, opd, op1, op2, opL, res, resL, trans, tst, truO, getS, putS, newS, Ow.fl, binD, cmpD, cmpV, notD, negD, idxV, idxD, place, callR, refs, nodupN, argSlots, backArgs, outs, keepP, bindT, bindTs, varE, varT, setR, setD, biD, augR, augsR, itemR, augV, ownO, unlS, hc, e1, e2, e3, e4, e5, peqL, shal, z2, l1, l2, f1, f2, evSs, k, peq]
  · have z2 : (s.2 == 1) = false := by simpa using z
    have : tsh s.1 s.2 = intText s.1 ++ 58 :: intText s.2 := by simp [R.bind, R.bindS, lift, ltD, truD, runDef, entry, evS, retE, evE, evG, evT, evL, evA, evO, evF, evC, evSc, argE, opd, op1, op2, opL, res, resL, trans, tst, truO, getS, putS, newS, Ow.fl, binD, cmpD, cmpV, notD, negD, idxV, idxD, place, callR, refs, nodupN, argSlots, backArgs, outs, keepP, bindT, bindTs, varE, varT, setR, setD, biD, augR, augsR, itemR, augV, ownO, unlS, tsh, z]
    rw [this] at e5
    have k1 := eq_true d1
    have k2 := eq_true d2
    simp [R.bind, R.bindS, lift, ltD, truD, runDef, entry, evS, retE, evE, evG, evT, evL, evA, evO, evF, evC, evSc, argE, opd, op1, op2, opL, res, resL, trans, tst, truO, getS, putS, newS, Ow.fl, binD, cmpD, cmpV, notD, negD, idxV, idxD, place, callR, refs, nodupN, argSlots, backArgs, outs, keepP, bindT, bindTs, varE, varT, setR, setD, biD, augR, augsR, itemR, augV, ownO, unlS, hc, e1, e2, e3, e4, e5, peqL, shal, z2, l1, l2, f1, f2, evSs, k1, k2, peq]
end VS.K1
end

section
set_option autoImplicit false
set_option linter.all false
namespace VS.K1
open VS
abbrev err : D := .str [83,104,97,114,101,69,114,114,111,114]
theorem ints_ex : ∀ (xs : List D) {P : Int → Prop}, (∀ x ∈ xs, ∃ i, P i ∧ x = .int i) → ∃ ns : List Int, xs = ns.map D.int ∧ ∀ n ∈ ns, P n
  | [], P, _ => ⟨[], rfl, by simp [R.bind, R.bindS, lift, ltD, truD, runDef, entry, evS, retE, evE, evG, evT, evL, evA, evO, evF, evC, evSc, argE, opd, op1, op2, opL, res, resL, trans, tst, truO, getS, putS, newS, Ow.fl, binD, cmpD, cmpV, notD, negD, idxV, idxD, place, callR, refs, nodupN, argSlots, backArgs, outs, keepP, bindT, bindTs, varE, varT, setR, setD, biD, augR, augsR, itemR, augV, ownO, unlS]⟩
  | x :: xs, P, h => by
    obtain ⟨i, hi, rfl⟩ := h x (by simp [R.bind, R.bindS, lift, ltD, truD, runDef, entry, evS, retE, evE, evG, evT, evL, evA, evO, evF, evC, evSc, argE, opd, op1, op2, opL, res, resL, trans, tst, truO, getS, putS, newS, Ow.fl, binD, cmpD, cmpV, notD, negD, idxV, idxD, place, callR, refs, nodupN, argSlots, backArgs, outs, keepP, bindT, bindTs, varE, varT, setR, setD, biD, augR, augsR, itemR, augV, ownO, unlS])
    obtain ⟨ns, rfl, hn⟩ := ints_ex xs fun y hy => h y (by simp [R.bind, R.bindS, lift, ltD, truD, runDef, entry, evS, retE, evE, evG, evT, evL, evA, evO, evF, evC, evSc, argE, opd, op1, op2, opL, res, resL, trans, tst, truO, getS, putS, newS, Ow.fl, binD, cmpD, cmpV, notD, negD, idxV, idxD, place, callR, refs, nodupN, argSlots, backArgs, outs, keepP, bindT, bindTs, varE, varT, setR, setD, biD, augR, augsR, itemR, augV, ownO, unlS, hy])
    refine ⟨i :: ns, rfl, fun t ht => ?_⟩
    rcases List.mem_cons.1 ht with rfl | ht
    · exact hi
    · exact hn t ht
theorem shal_ints (n : Nat) (ns : List Int) : (ns.map D.int).all (shal n) = true := by
  rw [List.all_map, List.all_eq_true]
  intro x _
  cases n <;> simp [R.bind, R.bindS, lift, ltD, truD, runDef, entry, evS, retE, evE, evG, evT, evL, evA, evO, evF, evC, evSc, argE, opd, op1, op2, opL, res, resL, trans, tst, truO, getS, putS, newS, Ow.fl, binD, cmpD, cmpV, notD, negD, idxV, idxD, place, callR, refs, nodupN, argSlots, backArgs, outs, keepP, bindT, bindTs, varE, varT, setR, setD, biD, augR, augsR, itemR, augV, ownO, unlS, shal]
theorem peq_ints : ∀ ns : List Int, peqL (ns.map D.int) (ns.map D.int) = true
  | [] => by simp [R.bind, R.bindS, lift, ltD, truD, runDef, entry, evS, retE, evE, evG, evT, evL, evA, evO, evF, evC, evSc, argE, opd, op1, op2, opL, res, resL, trans, tst, truO, getS, putS, newS, Ow.fl, binD, cmpD, cmpV, notD, negD, idxV, idxD, place, callR, refs, nodupN, argSlots, backArgs, outs, keepP, bindT, bindTs, varE, varT, setR, setD, biD, augR, augsR, itemR, augV, ownO, unlS, peqL]
  | n :: ns => by simp [R.bind, R.bindS, lift, ltD, truD, runDef, entry, evS, retE, evE, evG, evT, evL, evA, evO, evF, evC, evSc, argE, opd, op1, op2, opL, res, resL, trans, tst, truO, getS, putS, newS, Ow.fl, binD, cmpD, cmpV, notD, negD, idxV, idxD, place, callR, refs, nodupN, argSlots, backArgs, outs, keepP, bindT, bindTs, varE, varT, setR, setD, biD, augR, augsR, itemR, augV, ownO, unlS, peqL, peq, peq_ints ns]
theorem any_ints (k : Int) : ∀ ns : List Int, ((ns.map D.int).any fun z => peq z (.int k)) = decide (k ∈ ns)
  | [] => by simp [R.bind, R.bindS, lift, ltD, truD, runDef, entry, evS, retE, evE, evG, evT, evL, evA, evO, evF, evC, evSc, argE, opd, op1, op2, opL, res, resL, trans, tst, truO, getS, putS, newS, Ow.fl, binD, cmpD, cmpV, notD, negD, idxV, idxD, place, callR, refs, nodupN, argSlots, backArgs, outs, keepP, bindT, bindTs, varE, varT, setR, setD, biD, augR, augsR, itemR, augV, ownO, unlS]
  | n :: ns => by
    have ih := any_ints k ns
    simp only [List.map_cons, List.any_cons, ih, peq, List.mem_cons]
    by_cases e : n = k
    · subst e; simp [R.bind, R.bindS, lift, ltD, truD, runDef, entry, evS, retE, evE, evG, evT, evL, evA, evO, evF, evC, evSc, argE, opd, op1, op2, opL, res, resL, trans, tst, truO, getS, putS, newS, Ow.fl, binD, cmpD, cmpV, notD, negD, idxV, idxD, place, callR, refs, nodupN, argSlots, backArgs, outs, keepP, bindT, bindTs, varE, varT, setR, setD, biD, augR, augsR, itemR, augV, ownO, unlS]
    · have e2 : ¬ k = n := fun z => e z.symm
      simp [R.bind, R.bindS, lift, ltD, truD, runDef, entry, evS, retE, evE, evG, evT, evL, evA, evO, evF, evC, evSc, argE, opd, op1, op2, opL, res, resL, trans, tst, truO, getS, putS, newS, Ow.fl, binD, cmpD, cmpV, notD, negD, idxV, idxD, place, callR, refs, nodupN, argSlots, backArgs, outs, keepP, bindT, bindTs, varE, varT, setR, setD, biD, augR, augsR, itemR, augV, ownO, unlS, e, e2]
theorem flat_ints (ns : List Int) : (ns.map D.int).all flat = true := by
  rw [List.all_map, List.all_eq_true]
  intro x _
  simp [R.bind, R.bindS, lift, ltD, truD, runDef, entry, evS, retE, evE, evG, evT, evL, evA, evO, evF, evC, evSc, argE, opd, op1, op2, opL, res, resL, trans, tst, truO, getS, putS, newS, Ow.fl, binD, cmpD, cmpV, notD, negD, idxV, idxD, place, callR, refs, nodupN, argSlots, backArgs, outs, keepP, bindT, bindTs, varE, varT, setR, setD, biD, augR, augsR, itemR, augV, ownO, unlS, flat]
variable {F : Fns} (hc : F.call = callN Pr.prog FU 59)
section
include hc
theorem p7 (S x2 x3 x4 x5 x6 x7 x8 x9 x10 x11 x13 : Option Slot) (a b c : Int) : ∃ (ps : List Int) (N a' b' c' : Int), In N ps ∧ evSs F (body.drop 10) [S, dc a b c, x2, x3, x4, x5, x6, x7, x8, x9, x10, x11, none, x13, none, none, none, none, none, none, none, none] =
    evSs F (body.drop 11) [S, dc a' b' c', x2, x3, x4, x5, x6, x7, x8, x9, x10, x11, none, x13, w (li ps), w (.int N), none, none, none, none, none, none] := by
  obtain ⟨v, a1, b1, c1, hv, e1⟩ := r_roll a b c 6 (by decide) (by decide)
  unfold C at e1
  have lp := loopC_any (ns := [12]) (step := stepC F (.call 14 [(.var 1),(.int 6)]) (.nm 12) []) (P := fun r => ∃ a b c, r = [S, dc a b c, x2, x3, x4, x5, x6, x7, x8, x9, x10, x11, none, x13, none, none, none, none, none, none, none, none]) (Q := fun d => ∃ i : Int, (0 ≤ i ∧ i < 6) ∧ d = .int i) (fun d r ⟨a, b, c, hr⟩ => by
    subst hr
    obtain ⟨i, a2, b2, c2, hi, e⟩ := r_roll a b c 6 (by decide) (by decide)
    unfold C at e
    refine ⟨.int i, [S, dc a2 b2 c2, x2, x3, x4, x5, x6, x7, x8, x9, x10, x11, w d, x13, none, none, none, none, none, none, none, none], ?_, ⟨i, hi, rfl⟩, a2, b2, c2, rfl⟩
    simp [R.bind, R.bindS, lift, ltD, truD, runDef, entry, evS, retE, evE, evG, evT, evL, evA, evO, evF, evC, evSc, argE, opd, op1, op2, opL, res, resL, trans, tst, truO, getS, putS, newS, Ow.fl, binD, cmpD, cmpV, notD, negD, idxV, idxD, place, callR, refs, nodupN, argSlots, backArgs, outs, keepP, bindT, bindTs, varE, varT, setR, setD, biD, augR, augsR, itemR, augV, ownO, unlS, stepC, turnC, hc, e]) (rangeD 0 v) [S, dc a1 b1 c1, x2, x3, x4, x5, x6, x7, x8, x9, x10, x11, none, x13, none, none, none, none, none, none, none, none] ⟨_, _, _, rfl⟩
  obtain ⟨xs, r', e2, lx, qx, a2, b2, c2, rfl⟩ := lp
  obtain ⟨ps, rfl, hps⟩ := ints_ex xs qx
  obtain ⟨N, a3, b3, c3, hN, e3⟩ := r_roll a2 b2 c2 50 (by decide) (by decide)
  unfold C at e3
  have hl : ps.length ≤ 5 := by
    rw [List.length_map] at lx
    simp [R.bind, R.bindS, lift, ltD, truD, runDef, entry, evS, retE, evE, evG, evT, evL, evA, evO, evF, evC, evSc, argE, opd, op1, op2, opL, res, resL, trans, tst, truO, getS, putS, newS, Ow.fl, binD, cmpD, cmpV, notD, negD, idxV, idxD, place, callR, refs, nodupN, argSlots, backArgs, outs, keepP, bindT, bindTs, varE, varT, setR, setD, biD, augR, augsR, itemR, augV, ownO, unlS, rangeD] at lx
    omega
  refine ⟨ps, N, a3, b3, c3, ⟨hN.1, hN.2, hps, hl⟩, ?_⟩
  refine sq_nx (ev_unp (v := (.val, .tup [li ps, .int N])) (r1 := [S, dc a3 b3 c3, x2, x3, x4, x5, x6, x7, x8, x9, x10, x11, none, x13, none, none, none, none, none, none, none, none]) (ev_tup (evL_cons (v := (.own, li ps)) (r1 := [S, dc a2 b2 c2, x2, x3, x4, x5, x6, x7, x8, x9, x10, x11, none, x13, none, none, none, none, none, none, none, none]) ((ev_lc (ws := []) (its := rangeD 0 v) (r1 := [S, dc a1 b1 c1, x2, x3, x4, x5, x6, x7, x8, x9, x10, x11, none, x13, none, none, none, none, none, none, none, none]) (sv := [(12, none)]) ?_ ?_ rfl (by exact e2)).trans rfl) (evL_cons (v := (.val, .int N)) ?_ evL_nil))) ?_)
  · have r1 : rngOk v = true := by
      simp [R.bind, R.bindS, lift, ltD, truD, runDef, entry, evS, retE, evE, evG, evT, evL, evA, evO, evF, evC, evSc, argE, opd, op1, op2, opL, res, resL, trans, tst, truO, getS, putS, newS, Ow.fl, binD, cmpD, cmpV, notD, negD, idxV, idxD, place, callR, refs, nodupN, argSlots, backArgs, outs, keepP, bindT, bindTs, varE, varT, setR, setD, biD, augR, augsR, itemR, augV, ownO, unlS, rngOk]
      omega
    simp [R.bind, R.bindS, lift, ltD, truD, runDef, entry, evS, retE, evE, evG, evT, evL, evA, evO, evF, evC, evSc, argE, opd, op1, op2, opL, res, resL, trans, tst, truO, getS, putS, newS, Ow.fl, binD, cmpD, cmpV, notD, negD, idxV, idxD, place, callR, refs, nodupN, argSlots, backArgs, outs, keepP, bindT, bindTs, varE, varT, setR, setD, biD, augR, augsR, itemR, augV, ownO, unlS, hc, e1, rng1, r1]
  · simp [R.bind, R.bindS, lift, ltD, truD, runDef, entry, evS, retE, evE, evG, evT, evL, evA, evO, evF, evC, evSc, argE, opd, op1, op2, opL, res, resL, trans, tst, truO, getS, putS, newS, Ow.fl, binD, cmpD, cmpV, notD, negD, idxV, idxD, place, callR, refs, nodupN, argSlots, backArgs, outs, keepP, bindT, bindTs, varE, varT, setR, setD, biD, augR, augsR, itemR, augV, ownO, unlS, rangeD]
    omega
  · simp [R.bind, R.bindS, lift, ltD, truD, runDef, entry, evS, retE, evE, evG, evT, evL, evA, evO, evF, evC, evSc, argE, opd, op1, op2, opL, res, resL, trans, tst, truO, getS, putS, newS, Ow.fl, binD, cmpD, cmpV, notD, negD, idxV, idxD, place, callR, refs, nodupN, argSlots, backArgs, outs, keepP, bindT, bindTs, varE, varT, setR, setD, biD, augR, augsR, itemR, augV, ownO, unlS, hc, e3]
  · simp [R.bind, R.bindS, lift, ltD, truD, runDef, entry, evS, retE, evE, evG, evT, evL, evA, evO, evF, evC, evSc, argE, opd, op1, op2, opL, res, resL, trans, tst, truO, getS, putS, newS, Ow.fl, binD, cmpD, cmpV, notD, negD, idxV, idxD, place, callR, refs, nodupN, argSlots, backArgs, outs, keepP, bindT, bindTs, varE, varT, setR, setD, biD, augR, augsR, itemR, augV, ownO, unlS]
theorem p8a (S D1 x2 x3 x4 x5 x6 x7 x8 x9 x10 x11 x13 : Option Slot) {N : Int} {ps : List Int} (h : In N ps) (hS : ps.sum = 0) : evSs F (body.drop 11) [S, D1, x2, x3, x4, x5, x6, x7, x8, x9, x10, x11, none, x13, w (li ps), w (.int N), none, none, none, none, none, none] = .nx [S, D1, x2, x3, x4, x5, x6, x7, x8, x9, x10, x11, none, x13, w (li ps), w (.int N), w err, none, none, none, none, none] := by
  have e : C FU 59 12 [vi N, pl ps] = _ := t_split0 (n := 58) h hS
  unfold C at e
  refine (sq_nx (r' := [S, D1, x2, x3, x4, x5, x6, x7, x8, x9, x10, x11, none, x13, w (li ps), w (.int N), w err, none, none, none, none, none]) ?_).trans ?_
  · simp [R.bind, R.bindS, lift, ltD, truD, runDef, entry, evS, retE, evE, evG, evT, evL, evA, evO, evF, evC, evSc, argE, opd, op1, op2, opL, res, resL, trans, tst, truO, getS, putS, newS, Ow.fl, binD, cmpD, cmpV, notD, negD, idxV, idxD, place, callR, refs, nodupN, argSlots, backArgs, outs, keepP, bindT, bindTs, varE, varT, setR, setD, biD, augR, augsR, itemR, augV, ownO, unlS, hc, e]
  refine (sq_nx (r' := [S, D1, x2, x3, x4, x5, x6, x7, x8, x9, x10, x11, none, x13, w (li ps), w (.int N), w err, none, none, none, none, none]) ?_).trans ?_
  · simp [R.bind, R.bindS, lift, ltD, truD, runDef, entry, evS, retE, evE, evG, evT, evL, evA, evO, evF, evC, evSc, argE, opd, op1, op2, opL, res, resL, trans, tst, truO, getS, putS, newS, Ow.fl, binD, cmpD, cmpV, notD, negD, idxV, idxD, place, callR, refs, nodupN, argSlots, backArgs, outs, keepP, bindT, bindTs, varE, varT, setR, setD, biD, augR, augsR, itemR, augV, ownO, unlS, peq, shal, evSs, seqD, consD, ints_map, hS]
  · rw [sq_one]
    simp [R.bind, R.bindS, lift, ltD, truD, runDef, entry, evS, retE, evE, evG, evT, evL, evA, evO, evF, evC, evSc, argE, opd, op1, op2, opL, res, resL, trans, tst, truO, getS, putS, newS, Ow.fl, binD, cmpD, cmpV, notD, negD, idxV, idxD, place, callR, refs, nodupN, argSlots, backArgs, outs, keepP, bindT, bindTs, varE, varT, setR, setD, biD, augR, augsR, itemR, augV, ownO, unlS, peq, shal, evSs]
end
/-- the split's things -/
theorem spl_map {N : Int} {ps : List Int} : (List.range ps.length).map (fun k => (fl N ps).getD k 0 + if (k : Int) ∈ (top N ps).map (·.2) then 1 else 0) = spl N ps := by
  apply List.ext_getElem
  · simp [R.bind, R.bindS, lift, ltD, truD, runDef, entry, evS, retE, evE, evG, evT, evL, evA, evO, evF, evC, evSc, argE, opd, op1, op2, opL, res, resL, trans, tst, truO, getS, putS, newS, Ow.fl, binD, cmpD, cmpV, notD, negD, idxV, idxD, place, callR, refs, nodupN, argSlots, backArgs, outs, keepP, bindT, bindTs, varE, varT, setR, setD, biD, augR, augsR, itemR, augV, ownO, unlS, spl_len]
  · intro k h1 h2
    simp only [List.length_map, List.length_range] at h1
    have e := spl_at (N := N) (ps := ps) h1
    simp only [List.getElem_map, List.getElem_range]
    rw [← e]
    simp [R.bind, R.bindS, lift, ltD, truD, runDef, entry, evS, retE, evE, evG, evT, evL, evA, evO, evF, evC, evSc, argE, opd, op1, op2, opL, res, resL, trans, tst, truO, getS, putS, newS, Ow.fl, binD, cmpD, cmpV, notD, negD, idxV, idxD, place, callR, refs, nodupN, argSlots, backArgs, outs, keepP, bindT, bindTs, varE, varT, setR, setD, biD, augR, augsR, itemR, augV, ownO, unlS, List.getD_eq_getElem?_getD, h2]
theorem prs_floor {N S : Int} (hS : 0 < S) : ∀ (k : Nat) (ps : List Int), (nums k ps).map (fun p => ((N * p.2).fdiv S * S - N * p.2, ((p.1 : Nat) : Int))) = prs N S k ps
  | k, [] => rfl
  | k, x :: xs => by
    have e := Int.mul_fdiv_add_fmod (N * x) S
    have e2 : (N * x).fdiv S * S - N * x = 0 - (N * x).fmod S := by
      have : (N * x).fdiv S * S = S * (N * x).fdiv S := Int.mul_comm _ _
      omega
    simp [R.bind, R.bindS, lift, ltD, truD, runDef, entry, evS, retE, evE, evG, evT, evL, evA, evO, evF, evC, evSc, argE, opd, op1, op2, opL, res, resL, trans, tst, truO, getS, putS, newS, Ow.fl, binD, cmpD, cmpV, notD, negD, idxV, idxD, place, callR, refs, nodupN, argSlots, backArgs, outs, keepP, bindT, bindTs, varE, varT, setR, setD, biD, augR, augsR, itemR, augV, ownO, unlS, nums, prs, prs_floor hS (k + 1) xs, e2]
theorem nums_at : ∀ {k : Nat} {ps : List Int} {p : Nat × Int}, p ∈ nums k ps → k ≤ p.1 ∧ p.1 < k + ps.length ∧ ps.getD (p.1 - k) 0 = p.2
  | k, [], p, h => by simp [R.bind, R.bindS, lift, ltD, truD, runDef, entry, evS, retE, evE, evG, evT, evL, evA, evO, evF, evC, evSc, argE, opd, op1, op2, opL, res, resL, trans, tst, truO, getS, putS, newS, Ow.fl, binD, cmpD, cmpV, notD, negD, idxV, idxD, place, callR, refs, nodupN, argSlots, backArgs, outs, keepP, bindT, bindTs, varE, varT, setR, setD, biD, augR, augsR, itemR, augV, ownO, unlS, nums] at h
  | k, x :: xs, p, h => by
    simp only [nums, List.mem_cons] at h
    rcases h with rfl | h
    · simp [R.bind, R.bindS, lift, ltD, truD, runDef, entry, evS, retE, evE, evG, evT, evL, evA, evO, evF, evC, evSc, argE, opd, op1, op2, opL, res, resL, trans, tst, truO, getS, putS, newS, Ow.fl, binD, cmpD, cmpV, notD, negD, idxV, idxD, place, callR, refs, nodupN, argSlots, backArgs, outs, keepP, bindT, bindTs, varE, varT, setR, setD, biD, augR, augsR, itemR, augV, ownO, unlS]
    · obtain ⟨h1, h2, h3⟩ := nums_at h
      refine ⟨by omega, by simp only [List.length_cons]; omega, ?_⟩
      have : p.1 - k = (p.1 - (k + 1)) + 1 := by omega
      rw [this, List.getD_cons_succ]
      exact h3
end VS.K1
end

section
set_option autoImplicit false
set_option linter.all false
set_option maxRecDepth 20000
namespace VS.K1
open VS
variable {F : Fns} (hc : F.call = callN Pr.prog FU 59)
theorem slice_ints {N : Int} {ps : List Int} (h : In N ps) (hS : 0 < ps.sum) : slice (((srt N ps).map (·.2)).map D.int) none (some (N - (fl N ps).sum)) = ((top N ps).map (·.2)).map D.int := by
  have l := left_ok h hS
  have e : (srt N ps).length = ps.length := by
    unfold srt
    rw [(sortSP _).length_eq, prs_len]
  unfold slice cutTo top
  simp only [List.drop_zero, List.length_map, if_pos l.1]
  rw [List.map_take, List.map_take, e, Nat.min_eq_left (by omega)]
def last : List St := match body.getD 13 .pass with
  | .ifs _ b _ => b
  | _ => []
theorem few_small {n : Nat} (h : n ≤ 5) : n ≤ 16777216 := Nat.le_trans h (by decide)
theorem rng_small {n : Nat} (h : n ≤ 5) : rngOk (n : Int) = true := by
  have : n = 0 ∨ n = 1 ∨ n = 2 ∨ n = 3 ∨ n = 4 ∨ n = 5 := by omega
  rcases this with e | e | e | e | e | e <;> subst e <;> decide
theorem rng1_small {n : Nat} (h : n ≤ 5) : rng1 (.int (n : Nat)) = some ((List.range n).map fun k : Nat => D.int (0 + (k : Int)), []) := by
  have : n = 0 ∨ n = 1 ∨ n = 2 ∨ n = 3 ∨ n = 4 ∨ n = 5 := by omega
  rcases this with e | e | e | e | e | e <;> subst e <;> rfl
theorem ev_rng {F : Fns} {r r2 : Rho} {n : Nat} {i : Int} {e : Ex} {ds : List D} (hi : i = (n : Nat)) (hlen : evE F (.bi .len [(.var 14)]) r = .ok (.val, .int i) r) (hn : n ≤ 5) (h12 : saveAll r [12] = some [(12, none)]) (hl : loopC [12] (stepC F e (.nm 12) []) ((List.range n).map fun k : Nat => D.int (0 + (k : Int))) (wipeAll r [12]) = .ok ds r2) :
    evE F (.lc e (.nm 12) (.range1 (.bi .len [(.var 14)])) []) r = .ok (.own, .lst ds) (backAll r2 [(12, none)]) := by
  refine (ev_lc (t := .nm 12) (its := (List.range n).map fun k : Nat => D.int (0 + (k : Int))) (ws := []) (r1 := r) (sv := [(12, none)]) ?_ ?_ h12 (by exact hl)).trans rfl
  · have h1 := rng1_small hn
    rw [← hi] at h1
    clear hi
    have h2 : opd (.bi .len [(.var 14)]) (evE F (.bi .len [(.var 14)])) r = .ok (.tmp (.int i)) r := by
      simp only [opd, hlen, R.bind]
    rw [evSc, h2]
    simp only [R.bind, op1, res, h1, lift]
  · rw [List.length_map, List.length_range]
    exact few_small hn
include hc
theorem p9 (S D1 x2 x3 x4 x5 x6 x7 x8 x9 x10 x11 x13 : Option Slot) {N : Int} {ps : List Int} (h : In N ps) (hS : 0 < ps.sum) : ∃ s17 s19 s21 : Option Slot, evSs F last [S, D1, x2, x3, x4, x5, x6, x7, x8, x9, x10, x11, none, x13, w (li ps), w (.int N), w (.tup ((spl N ps).map D.int)), none, none, none, none, none] = .nx [S, D1, x2, x3, x4, x5, x6, x7, x8, x9, x10, x11, none, x13, w (li ps), w (.int N), w (.tup ((spl N ps).map D.int)), s17, none, s19, none, s21] := by
  have dv := sum_dv h hS
  have mN := smN h
  have s1 : ps.sum ≠ 0 := by omega
  have lens : ps.length ≤ 5 := h.len
  generalize hfo : (D.tup ((spl N ps).map D.int)) = fo
  have c1 := loopC_map (ns := [18]) (step := stepC F (.bin .fdiv (.bin .mul (.var 15) (.var 18)) (.bi .sum [(.var 14)])) (.nm 18) []) (enc := D.int) (f := fun x => D.int ((N * x).fdiv ps.sum)) (P := fun r => r = [S, D1, x2, x3, x4, x5, x6, x7, x8, x9, x10, x11, none, x13, w (li ps), w (.int N), w fo, none, none, none, none, none]) ps [S, D1, x2, x3, x4, x5, x6, x7, x8, x9, x10, x11, none, x13, w (li ps), w (.int N), w fo, none, none, none, none, none] (fun x _ r hr => by
      subst hr
      exact ⟨[S, D1, x2, x3, x4, x5, x6, x7, x8, x9, x10, x11, none, x13, w (li ps), w (.int N), w fo, none, w (.int x), none, none, none], by simp [R.bind, R.bindS, lift, ltD, truD, runDef, entry, evS, retE, evE, evG, evT, evL, evA, evO, evF, evC, evSc, argE, opd, op1, op2, opL, res, resL, trans, tst, truO, getS, putS, newS, Ow.fl, binD, cmpD, cmpV, notD, negD, idxV, idxD, place, callR, refs, nodupN, argSlots, backArgs, outs, keepP, bindT, bindTs, varE, varT, setR, setD, biD, augR, augsR, itemR, augV, ownO, unlS, stepC, turnC, dv, mN, seqD, consD, ints_map], rfl⟩) rfl
  obtain ⟨r1, c1, rfl⟩ := c1
  have q1 : ps.map (fun x => D.int ((N * x).fdiv ps.sum)) = (fl N ps).map D.int := by simp [R.bind, R.bindS, lift, ltD, truD, runDef, entry, evS, retE, evE, evG, evT, evL, evA, evO, evF, evC, evSc, argE, opd, op1, op2, opL, res, resL, trans, tst, truO, getS, putS, newS, Ow.fl, binD, cmpD, cmpV, notD, negD, idxV, idxD, place, callR, refs, nodupN, argSlots, backArgs, outs, keepP, bindT, bindTs, varE, varT, setR, setD, biD, augR, augsR, itemR, augV, ownO, unlS, fl]
  rw [q1] at c1
  -- the rests
  have sm : ∀ i, mulOk i ps.sum = true := fun i => mulOk_r (by
    have := sum_le (ps := ps) (B := 6) fun x hx => by have := h.nn x hx; omega
    omega)
  have c2 := loopC_map (ns := [12, 18]) (step := stepC F (.tup [(.bin .sub (.bin .mul (.idx (.var 17) (.var 12)) (.bi .sum [(.var 14)])) (.bin .mul (.var 15) (.var 18))),(.var 12)]) (.tup [(.nm 12),(.nm 18)]) []) (enc := fun p : Nat × Int => D.tup [.int (p.1 : Nat), .int p.2]) (f := fun p => pd ((N * p.2).fdiv ps.sum * ps.sum - N * p.2, (p.1 : Nat)))
    (P := fun r => r = [S, D1, x2, x3, x4, x5, x6, x7, x8, x9, x10, x11, none, x13, w (li ps), w (.int N), w fo, some ⟨.own, false, li (fl N ps)⟩, none, none, none, none]) (nums 0 ps) [S, D1, x2, x3, x4, x5, x6, x7, x8, x9, x10, x11, none, x13, w (li ps), w (.int N), w fo, some ⟨.own, false, li (fl N ps)⟩, none, none, none, none] (fun x hx r hr => by
      subst hr
      obtain ⟨_, n2, n3⟩ := nums_at hx
      have n4 : x.1 < ps.length := by omega
      have n5 : (fl N ps)[x.1]? = some ((N * x.2).fdiv ps.sum) := by
        rw [Nat.sub_zero, List.getD_eq_getElem?_getD, List.getElem?_eq_getElem n4, Option.getD_some] at n3
        unfold fl
        rw [List.getElem?_map, List.getElem?_eq_getElem n4, n3]
        rfl
      have n6 : (fl N ps).length = ps.length := by simp [R.bind, R.bindS, lift, ltD, truD, runDef, entry, evS, retE, evE, evG, evT, evL, evA, evO, evF, evC, evSc, argE, opd, op1, op2, opL, res, resL, trans, tst, truO, getS, putS, newS, Ow.fl, binD, cmpD, cmpV, notD, negD, idxV, idxD, place, callR, refs, nodupN, argSlots, backArgs, outs, keepP, bindT, bindTs, varE, varT, setR, setD, biD, augR, augsR, itemR, augV, ownO, unlS, fl]
      obtain ⟨_, n5'⟩ := List.getElem?_eq_some_iff.1 n5
      exact ⟨[S, D1, x2, x3, x4, x5, x6, x7, x8, x9, x10, x11, w (.int (x.1 : Nat)), x13, w (li ps), w (.int N), w fo, some ⟨.own, false, li (fl N ps)⟩, w (.int x.2), none, none, none], by simp [R.bind, R.bindS, lift, ltD, truD, runDef, entry, evS, retE, evE, evG, evT, evL, evA, evO, evF, evC, evSc, argE, opd, op1, op2, opL, res, resL, trans, tst, truO, getS, putS, newS, Ow.fl, binD, cmpD, cmpV, notD, negD, idxV, idxD, place, callR, refs, nodupN, argSlots, backArgs, outs, keepP, bindT, bindTs, varE, varT, setR, setD, biD, augR, augsR, itemR, augV, ownO, unlS, stepC, turnC, mN, sm, s1, seqD, consD, ints_map, n4, n5, n5', n6], rfl⟩) rfl
  obtain ⟨r2, c2, rfl⟩ := c2
  have q2 : (nums 0 ps).map (fun p => pd ((N * p.2).fdiv ps.sum * ps.sum - N * p.2, ((p.1 : Nat) : Int))) = (prs N ps.sum 0 ps).map pd := by
    rw [← prs_floor hS, List.map_map]
    rfl
  rw [q2, ← enum_nums] at c2
  -- the order
  have c3 := loopC_map (ns := [20, 12]) (step := stepC F (.var 12) (.tup [(.nm 20),(.nm 12)]) []) (enc := pd) (f := fun p => D.int p.2) (P := fun r => r = [S, D1, x2, x3, x4, x5, x6, x7, x8, x9, x10, x11, none, x13, w (li ps), w (.int N), w fo, some ⟨.own, false, li (fl N ps)⟩, none, none, none, none]) (srt N ps) [S, D1, x2, x3, x4, x5, x6, x7, x8, x9, x10, x11, none, x13, w (li ps), w (.int N), w fo, some ⟨.own, false, li (fl N ps)⟩, none, none, none, none] (fun x _ r hr => by
      subst hr
      exact ⟨[S, D1, x2, x3, x4, x5, x6, x7, x8, x9, x10, x11, w (.int x.2), x13, w (li ps), w (.int N), w fo, some ⟨.own, false, li (fl N ps)⟩, none, none, w (.int x.1), none], by simp [R.bind, R.bindS, lift, ltD, truD, runDef, entry, evS, retE, evE, evG, evT, evL, evA, evO, evF, evC, evSc, argE, opd, op1, op2, opL, res, resL, trans, tst, truO, getS, putS, newS, Ow.fl, binD, cmpD, cmpV, notD, negD, idxV, idxD, place, callR, refs, nodupN, argSlots, backArgs, outs, keepP, bindT, bindTs, varE, varT, setR, setD, biD, augR, augsR, itemR, augV, ownO, unlS, stepC, turnC], rfl⟩) rfl
  obtain ⟨r3, c3, rfl⟩ := c3
  have q3 : (srt N ps).map (fun p => D.int p.2) = ((srt N ps).map (·.2)).map D.int := by rw [List.map_map]; rfl
  rw [q3] at c3
  -- what the parts have to be
  have c4 := loopC_map (ns := [12]) (step := stepC F (.bin .add (.idx (.var 17) (.var 12)) (.bi .int [(.cmp .isin (.var 12) (.var 21))])) (.nm 12) []) (enc := fun k : Nat => D.int (0 + (k : Int))) (f := fun k => D.int ((fl N ps).getD k 0 + if (k : Int) ∈ (top N ps).map (·.2) then 1 else 0))
    (P := fun r => r = [S, D1, x2, x3, x4, x5, x6, x7, x8, x9, x10, x11, none, x13, w (li ps), w (.int N), w fo, some ⟨.own, false, li (fl N ps)⟩, none, some ⟨.own, false, li ((srt N ps).map fun p : Int × Int => p.2)⟩, none, some ⟨.own, false, li ((top N ps).map fun p : Int × Int => p.2)⟩]) (List.range ps.length) [S, D1, x2, x3, x4, x5, x6, x7, x8, x9, x10, x11, none, x13, w (li ps), w (.int N), w fo, some ⟨.own, false, li (fl N ps)⟩, none, some ⟨.own, false, li ((srt N ps).map fun p : Int × Int => p.2)⟩, none, some ⟨.own, false, li ((top N ps).map fun p : Int × Int => p.2)⟩] (fun k hk r hr => by
      subst hr
      have n4 : k < ps.length := List.mem_range.1 hk
      have n6 : (fl N ps).length = ps.length := by simp [R.bind, R.bindS, lift, ltD, truD, runDef, entry, evS, retE, evE, evG, evT, evL, evA, evO, evF, evC, evSc, argE, opd, op1, op2, opL, res, resL, trans, tst, truO, getS, putS, newS, Ow.fl, binD, cmpD, cmpV, notD, negD, idxV, idxD, place, callR, refs, nodupN, argSlots, backArgs, outs, keepP, bindT, bindTs, varE, varT, setR, setD, biD, augR, augsR, itemR, augV, ownO, unlS, fl]
      have n5 : (fl N ps)[k]? = some ((fl N ps).getD k 0) := by
        rw [List.getD_eq_getElem?_getD, List.getElem?_eq_getElem (by omega)]
        rfl
      have n7 := any_ints (k : Int) ((top N ps).map (·.2))
      have n8 := flat_ints ((top N ps).map (·.2))
      generalize (top N ps).map (·.2) = ks at *
      have n9 : inD (.int (k : Int)) (li ks) = some (decide ((k : Int) ∈ ks)) := by
        simp only [inD, flat, n8, n7, Bool.and_self, if_true]
      generalize (fl N ps).getD k 0 = y at *
      refine ⟨[S, D1, x2, x3, x4, x5, x6, x7, x8, x9, x10, x11, w (.int (k : Int)), x13, w (li ps), w (.int N), w fo, some ⟨.own, false, li (fl N ps)⟩, none, some ⟨.own, false, li ((srt N ps).map fun p : Int × Int => p.2)⟩, none, some ⟨.own, false, li ks⟩], ?_, rfl⟩
      obtain ⟨_, n5'⟩ := List.getElem?_eq_some_iff.1 n5
      by_cases z : (k : Int) ∈ ks
      · simp [R.bind, R.bindS, lift, ltD, truD, runDef, entry, evS, retE, evE, evG, evT, evL, evA, evO, evF, evC, evSc, argE, opd, op1, op2, opL, res, resL, trans, tst, truO, getS, putS, newS, Ow.fl, binD, cmpD, cmpV, notD, negD, idxV, idxD, place, callR, refs, nodupN, argSlots, backArgs, outs, keepP, bindT, bindTs, varE, varT, setR, setD, biD, augR, augsR, itemR, augV, ownO, unlS, stepC, turnC, n4, n5, n5', n6, n9, z]
      · simp [R.bind, R.bindS, lift, ltD, truD, runDef, entry, evS, retE, evE, evG, evT, evL, evA, evO, evF, evC, evSc, argE, opd, op1, op2, opL, res, resL, trans, tst, truO, getS, putS, newS, Ow.fl, binD, cmpD, cmpV, notD, negD, idxV, idxD, place, callR, refs, nodupN, argSlots, backArgs, outs, keepP, bindT, bindTs, varE, varT, setR, setD, biD, augR, augsR, itemR, augV, ownO, unlS, stepC, turnC, n4, n5, n5', n6, n9, z]) rfl
  obtain ⟨r4, c4, rfl⟩ := c4
  have q4 : (List.range ps.length).map (fun k => D.int ((fl N ps).getD k 0 + if (k : Int) ∈ (top N ps).map (·.2) then 1 else 0)) = (spl N ps).map D.int := by
    rw [← spl_map (N := N) (ps := ps), List.map_map]
    rfl
  rw [q4] at c4
  refine ⟨some ⟨.own, false, li (fl N ps)⟩, some ⟨.own, false, li ((srt N ps).map fun p : Int × Int => p.2)⟩, some ⟨.own, false, li ((top N ps).map fun p : Int × Int => p.2)⟩, ?_⟩
  refine (sq_nx (r' := [S, D1, x2, x3, x4, x5, x6, x7, x8, x9, x10, x11, none, x13, w (li ps), w (.int N), w fo, some ⟨.own, false, li (fl N ps)⟩, none, none, none, none]) ?_).trans ?_
  · refine (ev_asg (ev_lc (its := ps.map D.int) (ws := []) (r1 := [S, D1, x2, x3, x4, x5, x6, x7, x8, x9, x10, x11, none, x13, w (li ps), w (.int N), w fo, none, none, none, none, none]) (sv := [(18, none)]) ?_ (by rw [List.length_map]; omega) rfl (by exact c1)) (by simp [R.bind, R.bindS, lift, ltD, truD, runDef, entry, evS, retE, evE, evG, evT, evL, evA, evO, evF, evC, evSc, argE, opd, op1, op2, opL, res, resL, trans, tst, truO, getS, putS, newS, Ow.fl, binD, cmpD, cmpV, notD, negD, idxV, idxD, place, callR, refs, nodupN, argSlots, backArgs, outs, keepP, bindT, bindTs, varE, varT, setR, setD, biD, augR, augsR, itemR, augV, ownO, unlS, backAll, unlend])).trans ?_
    · simp [R.bind, R.bindS, lift, ltD, truD, runDef, entry, evS, retE, evE, evG, evT, evL, evA, evO, evF, evC, evSc, argE, opd, op1, op2, opL, res, resL, trans, tst, truO, getS, putS, newS, Ow.fl, binD, cmpD, cmpV, notD, negD, idxV, idxD, place, callR, refs, nodupN, argSlots, backArgs, outs, keepP, bindT, bindTs, varE, varT, setR, setD, biD, augR, augsR, itemR, augV, ownO, unlS, seqD]
    · simp [R.bind, R.bindS, lift, ltD, truD, runDef, entry, evS, retE, evE, evG, evT, evL, evA, evO, evF, evC, evSc, argE, opd, op1, op2, opL, res, resL, trans, tst, truO, getS, putS, newS, Ow.fl, binD, cmpD, cmpV, notD, negD, idxV, idxD, place, callR, refs, nodupN, argSlots, backArgs, outs, keepP, bindT, bindTs, varE, varT, setR, setD, biD, augR, augsR, itemR, augV, ownO, unlS, backAll, unlend]
  refine (sq_nx (r' := [S, D1, x2, x3, x4, x5, x6, x7, x8, x9, x10, x11, none, x13, w (li ps), w (.int N), w fo, some ⟨.own, false, li (fl N ps)⟩, none, some ⟨.own, false, li ((srt N ps).map fun p : Int × Int => p.2)⟩, none, none]) ?_).trans ?_
  · have inner := ev_lc (F := F) (r := [S, D1, x2, x3, x4, x5, x6, x7, x8, x9, x10, x11, none, x13, w (li ps), w (.int N), w fo, some ⟨.own, false, li (fl N ps)⟩, none, none, none, none]) (e := .tup [(.bin .sub (.bin .mul (.idx (.var 17) (.var 12)) (.bi .sum [(.var 14)])) (.bin .mul (.var 15) (.var 18))),(.var 12)]) (t := .tup [(.nm 12),(.nm 18)]) (c := []) (s := .enum (.var 14)) (its := enumD 0 (ps.map D.int)) (ws := []) (r1 := [S, D1, x2, x3, x4, x5, x6, x7, x8, x9, x10, x11, none, x13, w (li ps), w (.int N), w fo, some ⟨.own, false, li (fl N ps)⟩, none, none, none, none]) (sv := [(12, none), (18, none)]) (by simp [R.bind, R.bindS, lift, ltD, truD, runDef, entry, evS, retE, evE, evG, evT, evL, evA, evO, evF, evC, evSc, argE, opd, op1, op2, opL, res, resL, trans, tst, truO, getS, putS, newS, Ow.fl, binD, cmpD, cmpV, notD, negD, idxV, idxD, place, callR, refs, nodupN, argSlots, backArgs, outs, keepP, bindT, bindTs, varE, varT, setR, setD, biD, augR, augsR, itemR, augV, ownO, unlS, seqD]) (by rw [len_enum, List.length_map]; omega) rfl c2
    have lens2 : (srt N ps).length = ps.length := by
      unfold srt
      rw [(sortSP _).length_eq, prs_len]
    refine (ev_asg (ev_lc (its := (srt N ps).map pd) (ws := []) (r1 := [S, D1, x2, x3, x4, x5, x6, x7, x8, x9, x10, x11, none, x13, w (li ps), w (.int N), w fo, some ⟨.own, false, li (fl N ps)⟩, none, none, none, none]) (sv := [(20, none), (12, none)]) ?_ (by rw [List.length_map]; omega) rfl (by exact c3)) (by simp [R.bind, R.bindS, lift, ltD, truD, runDef, entry, evS, retE, evE, evG, evT, evL, evA, evO, evF, evC, evSc, argE, opd, op1, op2, opL, res, resL, trans, tst, truO, getS, putS, newS, Ow.fl, binD, cmpD, cmpV, notD, negD, idxV, idxD, place, callR, refs, nodupN, argSlots, backArgs, outs, keepP, bindT, bindTs, varE, varT, setR, setD, biD, augR, augsR, itemR, augV, ownO, unlS, backAll, unlend])).trans ?_
    · have sp := sort_pairs (prs N ps.sum 0 ps)
      have inner2 : evE F (.bi .sorted [(.lc (.tup [(.bin .sub (.bin .mul (.idx (.var 17) (.var 12)) (.bi .sum [(.var 14)])) (.bin .mul (.var 15) (.var 18))),(.var 12)]) (.tup [(.nm 12),(.nm 18)]) (.enum (.var 14)) [])]) [S, D1, x2, x3, x4, x5, x6, x7, x8, x9, x10, x11, none, x13, w (li ps), w (.int N), w fo, some ⟨.own, false, li (fl N ps)⟩, none, none, none, none] = .ok (.own, .lst ((srt N ps).map pd)) [S, D1, x2, x3, x4, x5, x6, x7, x8, x9, x10, x11, none, x13, w (li ps), w (.int N), w fo, some ⟨.own, false, li (fl N ps)⟩, none, none, none, none] := by
        rw [evE]
        simp only [evT, opd, inner, R.bind]
        simp only [opL, resL, res, Option.map_some, biD, consD, sp, lift]
        rfl
      simp only [evSc, opd, inner2, R.bind, op1, res, seqD, lift, Option.map_some, ownO]
    · simp [R.bind, R.bindS, lift, ltD, truD, runDef, entry, evS, retE, evE, evG, evT, evL, evA, evO, evF, evC, evSc, argE, opd, op1, op2, opL, res, resL, trans, tst, truO, getS, putS, newS, Ow.fl, binD, cmpD, cmpV, notD, negD, idxV, idxD, place, callR, refs, nodupN, argSlots, backArgs, outs, keepP, bindT, bindTs, varE, varT, setR, setD, biD, augR, augsR, itemR, augV, ownO, unlS, backAll, unlend]
  refine (sq_nx (r' := [S, D1, x2, x3, x4, x5, x6, x7, x8, x9, x10, x11, none, x13, w (li ps), w (.int N), w fo, some ⟨.own, false, li (fl N ps)⟩, none, some ⟨.own, false, li ((srt N ps).map fun p : Int × Int => p.2)⟩, none, some ⟨.own, false, li ((top N ps).map fun p : Int × Int => p.2)⟩]) ?_).trans ?_
  · have sl := slice_ints h hS
    simp [R.bind, R.bindS, lift, ltD, truD, runDef, entry, evS, retE, evE, evG, evT, evL, evA, evO, evF, evC, evSc, argE, opd, op1, op2, opL, res, resL, trans, tst, truO, getS, putS, newS, Ow.fl, binD, cmpD, cmpV, notD, negD, idxV, idxD, place, callR, refs, nodupN, argSlots, backArgs, outs, keepP, bindT, bindTs, varE, varT, setR, setD, biD, augR, augsR, itemR, augV, ownO, unlS, partE, isNonE, slcD, seqD, consD, ints_map, sl, - List.map_map]
  · rw [sq_one]
    have last := ev_rng (F := F) (r := [S, D1, x2, x3, x4, x5, x6, x7, x8, x9, x10, x11, none, x13, w (li ps), w (.int N), w fo, some ⟨.own, false, li (fl N ps)⟩, none, some ⟨.own, false, li ((srt N ps).map fun p : Int × Int => p.2)⟩, none, some ⟨.own, false, li ((top N ps).map fun p : Int × Int => p.2)⟩]) (n := ps.length) (e := .bin .add (.idx (.var 17) (.var 12)) (.bi .int [(.cmp .isin (.var 12) (.var 21))])) rfl (by simp [R.bind, R.bindS, lift, ltD, truD, runDef, entry, evS, retE, evE, evG, evT, evL, evA, evO, evF, evC, evSc, argE, opd, op1, op2, opL, res, resL, trans, tst, truO, getS, putS, newS, Ow.fl, binD, cmpD, cmpV, notD, negD, idxV, idxD, place, callR, refs, nodupN, argSlots, backArgs, outs, keepP, bindT, bindTs, varE, varT, setR, setD, biD, augR, augsR, itemR, augV, ownO, unlS, lenD]) lens rfl c4
    have sh1 := shal_ints 7 (spl N ps)
    have pq := peq_ints (spl N ps)
    have ss := spl_sum h hS
    subst hfo
    have g1 : evE F (.cmp .ne (.bi .list [(.var 16)]) (.lc (.bin .add (.idx (.var 17) (.var 12)) (.bi .int [(.cmp .isin (.var 12) (.var 21))])) (.nm 12) (.range1 (.bi .len [(.var 14)])) [])) [S, D1, x2, x3, x4, x5, x6, x7, x8, x9, x10, x11, none, x13, w (li ps), w (.int N), w (.tup ((spl N ps).map D.int)), some ⟨.own, false, li (fl N ps)⟩, none, some ⟨.own, false, li ((srt N ps).map fun p : Int × Int => p.2)⟩, none, some ⟨.own, false, li ((top N ps).map fun p : Int × Int => p.2)⟩] = .ok (.val, .bl false) [S, D1, x2, x3, x4, x5, x6, x7, x8, x9, x10, x11, none, x13, w (li ps), w (.int N), w (.tup ((spl N ps).map D.int)), some ⟨.own, false, li (fl N ps)⟩, none, some ⟨.own, false, li ((srt N ps).map fun p : Int × Int => p.2)⟩, none, some ⟨.own, false, li ((top N ps).map fun p : Int × Int => p.2)⟩] := by
      have g0 : evE F (.bi .list [(.var 16)]) [S, D1, x2, x3, x4, x5, x6, x7, x8, x9, x10, x11, none, x13, w (li ps), w (.int N), w (.tup ((spl N ps).map D.int)), some ⟨.own, false, li (fl N ps)⟩, none, some ⟨.own, false, li ((srt N ps).map fun p : Int × Int => p.2)⟩, none, some ⟨.own, false, li ((top N ps).map fun p : Int × Int => p.2)⟩] = .ok (.own, .lst ((spl N ps).map D.int)) [S, D1, x2, x3, x4, x5, x6, x7, x8, x9, x10, x11, none, x13, w (li ps), w (.int N), w (.tup ((spl N ps).map D.int)), some ⟨.own, false, li (fl N ps)⟩, none, some ⟨.own, false, li ((srt N ps).map fun p : Int × Int => p.2)⟩, none, some ⟨.own, false, li ((top N ps).map fun p : Int × Int => p.2)⟩] := by
        simp [R.bind, R.bindS, lift, ltD, truD, runDef, entry, evS, retE, evE, evG, evT, evL, evA, evO, evF, evC, evSc, argE, opd, op1, op2, opL, res, resL, trans, tst, truO, getS, putS, newS, Ow.fl, binD, cmpD, cmpV, notD, negD, idxV, idxD, place, callR, refs, nodupN, argSlots, backArgs, outs, keepP, bindT, bindTs, varE, varT, setR, setD, biD, augR, augsR, itemR, augV, ownO, unlS, seqD, consD]
      exact ev_cmp (fun _ _ => rfl) (fun _ _ => rfl) g0 last (by simp [R.bind, R.bindS, lift, ltD, truD, runDef, entry, evS, retE, evE, evG, evT, evL, evA, evO, evF, evC, evSc, argE, opd, op1, op2, opL, res, resL, trans, tst, truO, getS, putS, newS, Ow.fl, binD, cmpD, cmpV, notD, negD, idxV, idxD, place, callR, refs, nodupN, argSlots, backArgs, outs, keepP, bindT, bindTs, varE, varT, setR, setD, biD, augR, augsR, itemR, augV, ownO, unlS, shal, sh1, peq, pq])
    have g2 : evE F (.cmp .ne (.bi .sum [(.var 16)]) (.var 15)) [S, D1, x2, x3, x4, x5, x6, x7, x8, x9, x10, x11, none, x13, w (li ps), w (.int N), w (.tup ((spl N ps).map D.int)), some ⟨.own, false, li (fl N ps)⟩, none, some ⟨.own, false, li ((srt N ps).map fun p : Int × Int => p.2)⟩, none, some ⟨.own, false, li ((top N ps).map fun p : Int × Int => p.2)⟩] = .ok (.val, .bl false) [S, D1, x2, x3, x4, x5, x6, x7, x8, x9, x10, x11, none, x13, w (li ps), w (.int N), w (.tup ((spl N ps).map D.int)), some ⟨.own, false, li (fl N ps)⟩, none, some ⟨.own, false, li ((srt N ps).map fun p : Int × Int => p.2)⟩, none, some ⟨.own, false, li ((top N ps).map fun p : Int × Int => p.2)⟩] := by
      simp [R.bind, R.bindS, lift, ltD, truD, runDef, entry, evS, retE, evE, evG, evT, evL, evA, evO, evF, evC, evSc, argE, opd, op1, op2, opL, res, resL, trans, tst, truO, getS, putS, newS, Ow.fl, binD, cmpD, cmpV, notD, negD, idxV, idxD, place, callR, refs, nodupN, argSlots, backArgs, outs, keepP, bindT, bindTs, varE, varT, setR, setD, biD, augR, augsR, itemR, augV, ownO, unlS, seqD, consD, ints_map, ss, shal, peq]
    have g3 : evE F (.or [(.cmp .ne (.bi .list [(.var 16)]) (.lc (.bin .add (.idx (.var 17) (.var 12)) (.bi .int [(.cmp .isin (.var 12) (.var 21))])) (.nm 12) (.range1 (.bi .len [(.var 14)])) [])),(.cmp .ne (.bi .sum [(.var 16)]) (.var 15))]) [S, D1, x2, x3, x4, x5, x6, x7, x8, x9, x10, x11, none, x13, w (li ps), w (.int N), w (.tup ((spl N ps).map D.int)), some ⟨.own, false, li (fl N ps)⟩, none, some ⟨.own, false, li ((srt N ps).map fun p : Int × Int => p.2)⟩, none, some ⟨.own, false, li ((top N ps).map fun p : Int × Int => p.2)⟩] = .ok (.val, .bl false) [S, D1, x2, x3, x4, x5, x6, x7, x8, x9, x10, x11, none, x13, w (li ps), w (.int N), w (.tup ((spl N ps).map D.int)), some ⟨.own, false, li (fl N ps)⟩, none, some ⟨.own, false, li ((srt N ps).map fun p : Int × Int => p.2)⟩, none, some ⟨.own, false, li ((top N ps).map fun p : Int × Int => p.2)⟩] := by
      exact ev_or2 (fun _ _ => rfl) (fun _ _ => rfl) g1 g2
    exact (ev_if (fun _ _ => rfl) g3).trans (sq_nil (F := F))
theorem p8b (S D1 x2 x3 x4 x5 x6 x7 x8 x9 x10 x11 x13 : Option Slot) {N : Int} {ps : List Int} (h : In N ps) (hS : 0 < ps.sum) : ∃ s17 s19 s21 : Option Slot, evSs F (body.drop 11) [S, D1, x2, x3, x4, x5, x6, x7, x8, x9, x10, x11, none, x13, w (li ps), w (.int N), none, none, none, none, none, none] = .nx [S, D1, x2, x3, x4, x5, x6, x7, x8, x9, x10, x11, none, x13, w (li ps), w (.int N), w (.tup ((spl N ps).map D.int)), s17, none, s19, none, s21] := by
  have e : C FU 59 12 [vi N, pl ps] = _ := t_split (n := 58) h hS
  unfold C at e
  obtain ⟨s17, s19, s21, h9⟩ := p9 hc S D1 x2 x3 x4 x5 x6 x7 x8 x9 x10 x11 x13 h hS
  refine ⟨s17, s19, s21, ?_⟩
  have s0 : (ps.sum == 0) = false := by simpa using (show ps.sum ≠ 0 by omega)
  have sh1 := shal_ints 7 (spl N ps)
  generalize (spl N ps).map D.int = fo at *
  refine (sq_nx (r' := [S, D1, x2, x3, x4, x5, x6, x7, x8, x9, x10, x11, none, x13, w (li ps), w (.int N), w (.tup fo), none, none, none, none, none]) ?_).trans ?_
  · simp [R.bind, R.bindS, lift, ltD, truD, runDef, entry, evS, retE, evE, evG, evT, evL, evA, evO, evF, evC, evSc, argE, opd, op1, op2, opL, res, resL, trans, tst, truO, getS, putS, newS, Ow.fl, binD, cmpD, cmpV, notD, negD, idxV, idxD, place, callR, refs, nodupN, argSlots, backArgs, outs, keepP, bindT, bindTs, varE, varT, setR, setD, biD, augR, augsR, itemR, augV, ownO, unlS, hc, e]
  refine (sq_nx (r' := [S, D1, x2, x3, x4, x5, x6, x7, x8, x9, x10, x11, none, x13, w (li ps), w (.int N), w (.tup fo), none, none, none, none, none]) ?_).trans ?_
  · simp [R.bind, R.bindS, lift, ltD, truD, runDef, entry, evS, retE, evE, evG, evT, evL, evA, evO, evF, evC, evSc, argE, opd, op1, op2, opL, res, resL, trans, tst, truO, getS, putS, newS, Ow.fl, binD, cmpD, cmpV, notD, negD, idxV, idxD, place, callR, refs, nodupN, argSlots, backArgs, outs, keepP, bindT, bindTs, varE, varT, setR, setD, biD, augR, augsR, itemR, augV, ownO, unlS, peq, shal, evSs, seqD, consD, ints_map, s0, sh1]
  · rw [sq_one]
    show evS F (.ifs (.cmp .ne (.var 16) (.str [83,104,97,114,101,69,114,114,111,114])) last []) _ = _
    have g : tst (.cmp .ne (.var 16) (.str [83,104,97,114,101,69,114,114,111,114])) (evE F (.cmp .ne (.var 16) (.str [83,104,97,114,101,69,114,114,111,114]))) [S, D1, x2, x3, x4, x5, x6, x7, x8, x9, x10, x11, none, x13, w (li ps), w (.int N), w (.tup fo), none, none, none, none, none] = .ok true [S, D1, x2, x3, x4, x5, x6, x7, x8, x9, x10, x11, none, x13, w (li ps), w (.int N), w (.tup fo), none, none, none, none, none] := by
      simp [R.bind, R.bindS, lift, ltD, truD, runDef, entry, evS, retE, evE, evG, evT, evL, evA, evO, evF, evC, evSc, argE, opd, op1, op2, opL, res, resL, trans, tst, truO, getS, putS, newS, Ow.fl, binD, cmpD, cmpV, notD, negD, idxV, idxD, place, callR, refs, nodupN, argSlots, backArgs, outs, keepP, bindT, bindTs, varE, varT, setR, setD, biD, augR, augsR, itemR, augV, ownO, unlS, peq, shal, sh1]
    rw [evS, g]
    exact h9
end VS.K1
end

section
set_option autoImplicit false
set_option linter.all false
set_option maxRecDepth 20000
namespace VS.K1
open VS
def isT : CR → Bool
  | .ret .val (.bl true) _ => true
  | _ => false
theorem isT_ok {x : CR} (h : isT x = true) : ∃ os, x = .ret .val (.bl true) os := by
  unfold isT at h
  split at h
  · exact ⟨_, rfl⟩
  · cases h
theorem plain_ok : isT (C FU 59 23 []) = true := by decide +kernel
theorem law_ok (ns : List Int) : ∃ o os, C FU 60 24 (scriptS ns) = .ret o (.bl true) os := by
  obtain ⟨po, hp⟩ := isT_ok plain_ok
  obtain ⟨a, b, c, hr⟩ := t_rounds (fuel := FU) 57 ns
  unfold C at *
  rw [callN_eq (d := Pr.d_law) rfl]
  generalize hF : (⟨callN Pr.prog FU 59, fun g => Pr.prog.glo[g]?, FU, lamsOf ⟨callN Pr.prog FU 59, fun g => Pr.prog.glo[g]?, FU, fun _ _ => .no⟩ Pr.d_law.lams⟩ : Fns) = F
  have hc : F.call = callN Pr.prog FU 59 := by rw [← hF]
  clear hF
  -- the block
  obtain ⟨T, U, a1, b1, c1, hU, e1⟩ := p1 hc (scr ns) a b c
  obtain ⟨s, t, u, a2, b2, c2, hs, ht, hu, e2⟩ := p2 hc (scr ns) a1 b1 c1 (w (.int T)) (w (.int U))
  obtain ⟨l, h, m, e3⟩ := p3 hc (scr ns) (w (.int T)) (w (.int U)) (w (rd t)) (w (rd u)) hs a2 b2 c2
  obtain ⟨rows, a4, b4, c4, hl, hrows, e4⟩ := p4 hc (scr ns) (w (.int T)) (w (.int U)) (w (rd t)) (w (rd u)) (w l) (w h) (w m) (w (rd s)) a2 b2 c2
  obtain ⟨o13, e5⟩ := p5 hc (scr ns) (w (.int T)) (w (.int U)) (w (rd t)) (w (rd u)) (w l) (w h) (w m) (w (rd s)) hl hrows a4 b4 c4
  have e6 := p6 hc (scr ns) (w (.int U)) (w (rd u)) (w l) (w h) (w m) (T := T) hs ht hl hrows o13 a4 b4 c4
  obtain ⟨ps, N, a7, b7, c7, hin, e7⟩ := p7 hc (scr ns) (w (.int T)) (w (.int U)) (w (rd s)) (w (rd t)) (w (rd u)) (w l) (w h) (w m) (w (.lst (rows.map rd))) (w (rd (rows.foldl sadd (0, 1)))) o13 a4 b4 c4
  have blk : ∃ r, evSs F body [scr ns, dc a b c, none, none, none, none, none, none, none, none, none, none, none, none, none, none, none, none, none, none, none, none] = .nx r := by
    rw [e1, e2, e3, e4, e5, e6, e7]
    by_cases hS : ps.sum = 0
    · exact ⟨_, p8a hc (scr ns) (dc a7 b7 c7) (w (.int T)) (w (.int U)) (w (rd s)) (w (rd t)) (w (rd u)) (w l) (w h) (w m) (w (.lst (rows.map rd))) (w (rd (rows.foldl sadd (0, 1)))) o13 hin hS⟩
    · have hS2 : 0 < ps.sum := by
        have := sum_nonneg fun x hx => (hin.nn x hx).1
        omega
      obtain ⟨x, y, z, e⟩ := p8b hc (scr ns) (dc a7 b7 c7) (w (.int T)) (w (.int U)) (w (rd s)) (w (rd t)) (w (rd u)) (w l) (w h) (w m) (w (.lst (rows.map rd))) (w (rd (rows.foldl sadd (0, 1)))) o13 hin hS2
      exact ⟨_, e⟩
  obtain ⟨r, blk⟩ := blk
  refine ⟨.val, _, def_rt (v := .bl true) (r' := r) rfl ?_⟩
  have f1 : evE F (.call 15 [(.var 0),(.int 1)]) [scr ns, none, none, none, none, none, none, none, none, none, none, none, none, none, none, none, none, none, none, none, none, none] = .ok (.one, .lst [dic a b c]) [scr ns, none, none, none, none, none, none, none, none, none, none, none, none, none, none, none, none, none, none, none, none, none] := by
    simp [R.bind, R.bindS, lift, ltD, truD, runDef, entry, evS, retE, evE, evG, evT, evL, evA, evO, evF, evC, evSc, argE, opd, op1, op2, opL, res, resL, trans, tst, truO, getS, putS, newS, Ow.fl, binD, cmpD, cmpV, notD, negD, idxV, idxD, place, callR, refs, nodupN, argSlots, backArgs, outs, keepP, bindT, bindTs, varE, varT, setR, setD, biD, augR, augsR, itemR, augV, ownO, unlS, hc, hr]
  refine (sq_nx (r' := r) ?_).trans (sq_rt ?_)
  · show evS F (.for1 1 (.call 15 [(.var 0),(.int 1)]) body) [scr ns, none, none, none, none, none, none, none, none, none, none, none, none, none, none, none, none, none, none, none, none, none] = _
    rw [evS, f1]
    simp [R.bind, R.bindS, lift, ltD, truD, runDef, entry, evS, retE, evE, evG, evT, evL, evA, evO, evF, evC, evSc, argE, opd, op1, op2, opL, res, resL, trans, tst, truO, getS, putS, newS, Ow.fl, binD, cmpD, cmpV, notD, negD, idxV, idxD, place, callR, refs, nodupN, argSlots, backArgs, outs, keepP, bindT, bindTs, varE, varT, setR, setD, biD, augR, augsR, itemR, augV, ownO, unlS, blk]
  · simp [R.bind, R.bindS, lift, ltD, truD, runDef, entry, evS, retE, evE, evG, evT, evL, evA, evO, evF, evC, evSc, argE, opd, op1, op2, opL, res, resL, trans, tst, truO, getS, putS, newS, Ow.fl, binD, cmpD, cmpV, notD, negD, idxV, idxD, place, callR, refs, nodupN, argSlots, backArgs, outs, keepP, bindT, bindTs, varE, varT, setR, setD, biD, augR, augsR, itemR, augV, ownO, unlS, hc, hp]
end VS.K1
end

section
open PySem PySem.Spec PyProof.Rows L2 LamX
set_option Elab.async false
set_option linter.all false
set_option maxRecDepth 100000
set_option maxHeartbeats 0
namespace VS.Hd
abbrev mb : List Stmt := PySem.Challenge.pw_votestack_k01_exact_numbers_for_votes.main.body
def dshare : DD := ⟨4, ("share" : PySem.Str), [("one" : PySem.Str), ("under" : PySem.Str), ("left" : PySem.Str), ("right" : PySem.Str), ("sign" : PySem.Str)], ⟨false, false, false, []⟩, Pr.d_share⟩
def dwhole : DD := ⟨5, ("whole" : PySem.Str), [("number" : PySem.Str)], ⟨false, false, false, []⟩, Pr.d_whole⟩
def dplus : DD := ⟨6, ("plus" : PySem.Str), [("one" : PySem.Str), ("other" : PySem.Str)], ⟨false, false, false, []⟩, Pr.d_plus⟩
def dminus : DD := ⟨7, ("minus" : PySem.Str), [("one" : PySem.Str), ("other" : PySem.Str)], ⟨false, false, false, []⟩, Pr.d_minus⟩
def dtimes : DD := ⟨8, ("times" : PySem.Str), [("one" : PySem.Str), ("other" : PySem.Str)], ⟨false, false, false, []⟩, Pr.d_times⟩
def dparted : DD := ⟨9, ("parted" : PySem.Str), [("one" : PySem.Str), ("other" : PySem.Str)], ⟨false, false, false, []⟩, Pr.d_parted⟩
def dis_less : DD := ⟨10, ("is_less" : PySem.Str), [("one" : PySem.Str), ("other" : PySem.Str)], ⟨false, false, false, []⟩, Pr.d_is_less⟩
def dbelow : DD := ⟨11, ("below" : PySem.Str), [("one" : PySem.Str)], ⟨false, false, false, []⟩, Pr.d_below⟩
def dabove : DD := ⟨12, ("above" : PySem.Str), [("one" : PySem.Str)], ⟨false, false, false, []⟩, Pr.d_above⟩
def dnearest : DD := ⟨13, ("nearest" : PySem.Str), [("one" : PySem.Str)], ⟨false, false, false, []⟩, Pr.d_nearest⟩
def dsum_of : DD := ⟨14, ("sum_of" : PySem.Str), [("rows" : PySem.Str), ("found" : PySem.Str), ("one" : PySem.Str)], ⟨false, false, false, []⟩, Pr.d_sum_of⟩
def dtold_share : DD := ⟨15, ("told_share" : PySem.Str), [("one" : PySem.Str)], ⟨false, false, false, []⟩, Pr.d_told_share⟩
def dsplit : DD := ⟨16, ("split" : PySem.Str), [("number" : PySem.Str), ("parts" : PySem.Str), ("all_parts" : PySem.Str), ("found" : PySem.Str), ("part" : PySem.Str), ("rests" : PySem.Str), ("place" : PySem.Str), ("rest" : PySem.Str)], ⟨false, true, false, [(47, 19)]⟩, Pr.d_split⟩
def d_law_dice : DD := ⟨18, ("_law_dice" : PySem.Str), [("cell" : PySem.Str)], ⟨false, false, false, []⟩, Pr.d_law_dice⟩
def d_law_roll : DD := ⟨19, ("_law_roll" : PySem.Str), [("dice" : PySem.Str), ("many" : PySem.Str), ("found" : PySem.Str)], ⟨false, false, false, []⟩, Pr.d_law_roll⟩
def d_law_rounds : DD := ⟨20, ("_law_rounds" : PySem.Str), [("script" : PySem.Str), ("most" : PySem.Str), ("cells" : PySem.Str), ("cell" : PySem.Str)], ⟨false, false, false, []⟩, Pr.d_law_rounds⟩
def d_law_gcd : DD := ⟨22, ("_law_gcd" : PySem.Str), [("one" : PySem.Str), ("other" : PySem.Str)], ⟨false, false, false, []⟩, Pr.d_law_gcd⟩
def d_law_share : DD := ⟨23, ("_law_share" : PySem.Str), [("one" : PySem.Str), ("under" : PySem.Str), ("sign" : PySem.Str), ("both" : PySem.Str)], ⟨false, false, false, []⟩, Pr.d_law_share⟩
def d_law_add : DD := ⟨24, ("_law_add" : PySem.Str), [("one" : PySem.Str), ("other" : PySem.Str)], ⟨false, false, false, []⟩, Pr.d_law_add⟩
def d_law_mul : DD := ⟨25, ("_law_mul" : PySem.Str), [("one" : PySem.Str), ("other" : PySem.Str)], ⟨false, false, false, []⟩, Pr.d_law_mul⟩
def d_law_less : DD := ⟨26, ("_law_less" : PySem.Str), [("one" : PySem.Str), ("other" : PySem.Str)], ⟨false, false, false, []⟩, Pr.d_law_less⟩
def d_law_one : DD := ⟨27, ("_law_one" : PySem.Str), [("dice" : PySem.Str)], ⟨false, false, false, []⟩, Pr.d_law_one⟩
def d_law_plain : DD := ⟨28, ("_law_plain" : PySem.Str), [("told" : PySem.Str), ("bad" : PySem.Str), ("k" : PySem.Str), ("f" : PySem.Str)], ⟨false, false, true, []⟩, Pr.d_law_plain⟩
def dlaw : DD := ⟨29, ("law" : PySem.Str), [("script" : PySem.Str), ("dice" : PySem.Str), ("top" : PySem.Str), ("under" : PySem.Str), ("one" : PySem.Str), ("other" : PySem.Str), ("third" : PySem.Str), ("low" : PySem.Str), ("high" : PySem.Str), ("near" : PySem.Str), ("rows" : PySem.Str), ("total" : PySem.Str), ("k" : PySem.Str), ("row" : PySem.Str), ("parts" : PySem.Str), ("number" : PySem.Str), ("found" : PySem.Str), ("floors" : PySem.Str), ("part" : PySem.Str), ("order" : PySem.Str), ("rest" : PySem.Str), ("more" : PySem.Str)], ⟨true, false, false, []⟩, Pr.d_law⟩
def pg : Pg := ⟨[some dshare, some dwhole, some dplus, some dminus, some dtimes, some dparted, some dis_less, some dbelow, some dabove, some dnearest, some dsum_of, some dtold_share, some dsplit, some d_law_dice, some d_law_roll, some d_law_rounds, none, some d_law_gcd, some d_law_share, some d_law_add, some d_law_mul, some d_law_less, some d_law_one, some d_law_plain, some dlaw], [("__debug__" : PySem.Str), ("ShareError" : PySem.Str)], ("_law_told" : PySem.Str), 21, [("what" : PySem.Str)], ("what" : PySem.Str), ("ShareError" : PySem.Str), [1], [83, 104, 97, 114, 101, 69, 114, 114, 111, 114]⟩
theorem pgOk : PgOk mb pg true Pr.prog where
  df := fun j q h => by
    exact PgDf.ok (l := pg.ds) (m := Pr.prog.defs) ⟨rfl, rfl, rfl, rfl, rfl, rfl, rfl, rfl, rfl, rfl, rfl, rfl, rfl, rfl, rfl, rfl, trivial, rfl, rfl, rfl, rfl, rfl, rfl, rfl, rfl, trivial⟩ h
  ck := by decide +kernel
  bd := ⟨fun _ _ _ _ _ _ us hl => match us, hl with | [_, _], _ => rfl, fun _ _ _ _ _ _ us hl => match us, hl with | [_], _ => rfl, fun _ _ _ _ _ _ us hl => match us, hl with | [_, _], _ => rfl, fun _ _ _ _ _ _ us hl => match us, hl with | [_, _], _ => rfl, fun _ _ _ _ _ _ us hl => match us, hl with | [_, _], _ => rfl, fun _ _ _ _ _ _ us hl => match us, hl with | [_, _], _ => rfl, fun _ _ _ _ _ _ us hl => match us, hl with | [_, _], _ => rfl, fun _ _ _ _ _ _ us hl => match us, hl with | [_], _ => rfl, fun _ _ _ _ _ _ us hl => match us, hl with | [_], _ => rfl, fun _ _ _ _ _ _ us hl => match us, hl with | [_], _ => rfl, fun _ _ _ _ _ _ us hl => match us, hl with | [_], _ => rfl, fun _ _ _ _ _ _ us hl => match us, hl with | [_], _ => rfl, fun _ _ _ _ _ _ us hl => match us, hl with | [_, _], _ => rfl, fun _ _ _ _ _ _ us hl => match us, hl with | [_], _ => rfl, fun _ _ _ _ _ _ us hl => match us, hl with | [_, _], _ => rfl, fun _ _ _ _ _ _ us hl => match us, hl with | [_, _], _ => rfl, fun _ _ _ _ _ _ us hl => match us, hl with | [_, _], _ => rfl, fun _ _ _ _ _ _ us hl => match us, hl with | [_, _], _ => rfl, fun _ _ _ _ _ _ us hl => match us, hl with | [_, _], _ => rfl, fun _ _ _ _ _ _ us hl => match us, hl with | [_, _], _ => rfl, fun _ _ _ _ _ _ us hl => match us, hl with | [_, _], _ => rfl, fun _ _ _ _ _ _ us hl => match us, hl with | [_], _ => rfl, fun _ _ _ _ _ _ us hl => match us, hl with | [], _ => rfl, fun _ _ _ _ _ _ us hl => match us, hl with | [_], _ => rfl, trivial⟩
  td := fun _ => ⟨⟨_, _, _, _, _, _, _, _, _, rfl⟩, by decide +kernel, rfl, by decide +kernel, by decide, by decide +kernel, by decide +kernel, fun _ _ _ _ _ _ us hl => match us, hl with | [_], _ => rfl⟩
  fl := by decide +kernel
abbrev R : PySem.W.OpenRow := PySem.W.OpenLaw.row PySem.Challenge.rw_votestack_k01_exact_numbers_for_votes
abbrev hk : PySem.W.Hook := He.hookX 5 (pg.fa true) (pg.fn mb true) [] pg.tb pg.ex
def ob (s : PySem.W.SharedT) : He.AlX := He.obsX 5 (pg.fa true) (pg.fn mb true) [] pg.tb pg.ex (HandSHeadRun.getT s)
theorem ob_eq (s : PySem.W.SharedT) : ob s = hk.obs s.abs := He.obsX_eq (HandSHeadRun.getT_eq s)
def names0 : List PySem.Str := [("VoteFault" : PySem.Str), ("ShareError" : PySem.Str), ("share" : PySem.Str), ("whole" : PySem.Str), ("plus" : PySem.Str), ("minus" : PySem.Str), ("times" : PySem.Str), ("parted" : PySem.Str), ("is_less" : PySem.Str), ("below" : PySem.Str), ("above" : PySem.Str), ("nearest" : PySem.Str), ("sum_of" : PySem.Str), ("told_share" : PySem.Str), ("split" : PySem.Str), ("_law_dice" : PySem.Str), ("_law_roll" : PySem.Str), ("_law_rounds" : PySem.Str), ("_law_told" : PySem.Str), ("_law_gcd" : PySem.Str), ("_law_share" : PySem.Str), ("_law_add" : PySem.Str), ("_law_mul" : PySem.Str), ("_law_less" : PySem.Str), ("_law_one" : PySem.Str), ("_law_plain" : PySem.Str)]
abbrev loose : List PySem.Str := names0
abbrev li : Nat := 29
theorem run (w : World) : HandSHeadRun.RunEq R (PySem.W.view R.prog [li]) hk ob 6000 loose w := by
  intro os
  kernel_rfl
end VS.Hd
open PySem PySem.W PySem.Calls PyProof.Rows
theorem law_of (pl : ∀ ns : List Int, ns.length ≤ 63 → ∃ o os, VS.callN VS.Pr.prog (2 ^ 62) 60 24 (VS.scriptS ns) = .ret o (.bl true) os) : PySem.Challenge.rw_votestack_k01_exact_numbers_for_votes.Holds := by
  w_on; o_law
  refine HandSHeadRun.head_any (r := OpenLaw.row PySem.Challenge.rw_votestack_k01_exact_numbers_for_votes) (q := view (OpenLaw.row PySem.Challenge.rw_votestack_k01_exact_numbers_for_votes).prog [VS.Hd.li]) (H := VS.Hd.hk) (ob := VS.Hd.ob) (M := 6000) (loose := VS.Hd.loose) (d := HandSHeadRun.topDef (OpenLaw.row PySem.Challenge.rw_votestack_k01_exact_numbers_for_votes).prog VS.Hd.li) (kwd := []) VS.Hd.ob_eq
    (by kernel_rfl) (fun s => by kernel_rfl) VS.Hd.run (by kernel_rfl) (by kernel_rfl) (by kernel_rfl) (by rfl) (by first | assumption | decide +kernel) (by decide +kernel) ⟨rfl, rfl, rfl, rfl, rfl, by decide +kernel⟩ ?hw ?hc
  case hw => w_witness2
  case hc =>
    refine LamX.walk_ofTsE (l := PySem.Challenge.rw_votestack_k01_exact_numbers_for_votes) (n := 63) (k := 3 * 60 + 1) (x := "script") (CX := fun w => L2.CX PySem.Challenge.rw_votestack_k01_exact_numbers_for_votes.prog w) rfl (by decide) (by kernel_rfl) ⟨rfl, by decide, by decide⟩ ?F (fun w H s e s' z => VS.cx_none _ _ _ _ _ _ z)
    intro w mg fa h Y G hmg0
    obtain ⟨K, KX, c⟩ := Y
    have hmg : mg ("law" : PySem.Str) = some (.ref fa) := by
      have e : (HandSHeadRun.topDef (OpenLaw.row PySem.Challenge.rw_votestack_k01_exact_numbers_for_votes).prog VS.Hd.li).name = ("law" : PySem.Str) := by kernel_rfl
      rw [← e]
      exact hmg0
    exact ⟨K, KX, VS.law_at (q := VS.Hd.dlaw) (li := 24) VS.Hd.pgOk rfl rfl rfl pl KX G hmg c⟩
end

section
theorem PySem.Challenge.cw_votestack_k01_exact_numbers_for_votes_holds : PySem.Challenge.rw_votestack_k01_exact_numbers_for_votes.Holds :=
  law_of fun ns _ => VS.K1.law_ok ns
end
