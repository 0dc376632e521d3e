import PyProof.Rows.All
import PySem.Str
import HandS.ForMost
import HandS.ForExc
import HandS.Wide
import HandS.Zip
import HandS.IsInst
import HandS.Conv
import HandS.TupAny
import HandS.TupMul
import HandS.Strs
import HandS.Walk
import HandS.HotCalls
import HandS.HeadHook1
import HandS.HeadHook2
import HandS.Style
import HandS.Deep
import KE.DataMinMax
import KE.KTupSum
import HandS.Text
import KE.GoesZip
import KE.GoesMore
import KE.GoesEnum
import HandS.SortRule
import HandS.SortInts
import HandS.TupSets
import HandS.Flow
import KE.DataFind
import HandS.ExcIs
import HandS.SetFor
import KE.DatumOrd
import HandS.SortKw
import HandS.HeadEnd
import HandS.Head0
import HandS.Head1
import HandS.Head2
import KE.KStateDown
import PySem.Challenge.RW_drawndown_k53_no_least
set_option linter.all false
namespace DD
open PySem (Str)

/-- data, as a value: what nobody changes any more -/
inductive D where
  | non
  | bool (b : Bool)
  | int (i : Int)
  | str (s : Str)
  | tup (xs : List D)
  | lst (xs : List D)
  | dic (ks vs : List D)
  /-- a dict that is locked -/
  | ldic (ks vs : List D)
  | ref (k : Nat)
  | scr (xs : List D)

/-- what a slot holds: data, or a list (a dict) that nobody else has -/
inductive W where
  | no
  | fz (d : D)
  | own (ds : List D)
  | ownD (ks vs : List D)
  | lw (ws : List W)
  | tw (ws : List W)

mutual
def W.d : W → D
  | .no => .non
  | .fz d => d
  | .own ds => .lst ds
  | .ownD ks vs => .dic ks vs
  | .lw ws => .lst (W.ds ws)
  | .tw ws => .tup (W.ds ws)
def W.ds : List W → List D
  | [] => []
  | w :: ws => W.d w :: W.ds ws
end

abbrev Ev := List W

/-- shared things: a list that defs change for their callers -/
inductive Cell where
  | lst (ds : List D)
abbrev Store := List Cell

inductive R (α : Type) where
  | ok (a : α) (s : Store)
  | exc (c : Nat) (s : Store)
  | bad

def R.bind {α β : Type} : R α → (α → Store → R β) → R β
  | .ok a s, f => f a s
  | .exc c s, _ => .exc c s
  | .bad, _ => .bad
@[simp] theorem R.bind_ok {α β : Type} (a : α) (s : Store) (f : α → Store → R β) : (R.ok a s).bind f = f a s := rfl
@[simp] theorem R.bind_exc {α β : Type} (c : Nat) (s : Store) (f : α → Store → R β) : (R.exc c s).bind f = .exc c s := rfl
@[simp] theorem R.bind_bad {α β : Type} (f : α → Store → R β) : (R.bad).bind f = .bad := rfl
/-- what raises counts as bad -/
def R.calm {α : Type} : R α → R α
  | .exc _ _ => .bad
  | r => r
@[simp] theorem R.calm_ok {α : Type} (a : α) (s : Store) : (R.ok a s).calm = .ok a s := rfl
def R.of {α : Type} (o : Option α) (s : Store) : R α := match o with
  | some a => .ok a s
  | none => .bad
@[simp] theorem R.of_some {α : Type} (a : α) (s : Store) : R.of (some a) s = .ok a s := rfl
@[simp] theorem R.of_none {α : Type} (s : Store) : R.of (none : Option α) s = .bad := rfl

inductive Bop where
  | add | sub | mul | fdiv | mod | pow
inductive Cop where
  | eq | ne | lt | le | gt | ge | isin | notin
inductive Bi where
  | len | abs | min1 | max1 | min2 | max2 | sum | all | int | list | tuple | sorted | str | sortedset | lenset | minp | sortedw
inductive Ty where
  | int | bool | str | tuple | list | dict
inductive Me where
  | count | index | get1 | get2 | split | join | upper

/-- a target -/
inductive T where
  | nm (i : Nat)
  | tp (ts : List T)

mutual
inductive E where
  | var (i : Nat)
  /-- a name whose list is looked at alone -/
  | varB (i : Nat)
  | cst (d : D)
  | glo (x : Str) (d : D)
  | bin (o : Bop) (a b : E)
  | neg (a : E)
  | not (a : E)
  | and (a b : E)
  | or (a b : E)
  | cmp (o : Cop) (a b : E)
  | isd (a : E) (d : D) (pos : Bool)
  | chain (o p : Cop) (a b c : E)
  | ite (c a b : E)
  | tup (es : List E)
  | lst (es : List E)
  | dic0
  | idx (a i : E)
  /-- what a shared list has at a place -/
  | idxC (a i : E)
  | popC (a i : E)
  /-- how much a shared list has -/
  | lenC (a : E)
  /-- x[k][l] of a list of lists that are its holder's own -/
  | idx2 (i : Nat) (k l : E)
  /-- a or b, of a whole number or None -/
  | orv (a b : E)
  | sl (a lo hi : E)
  | slF (a lo : E)
  | slT (a hi : E)
  | rev (a : E)
  | call (f : Nat) (es : List E)
  /-- a call that is lent its lists and hands back no list -/
  | callB (f : Nat) (es : List E)
  | sel (fs : List Nat) (k : E) (es : List E)
  | b1 (b : Bi) (a : E)
  | b2 (b : Bi) (a c : E)
  | lof (it : I)
  | isi (a : E) (ts : List Ty)
  | m0 (m : Me) (a : E)
  | m1 (m : Me) (a b : E)
  | m2 (m : Me) (a b c : E)
  /-- a method of a text -/
  | ms (m : Me) (a b : E)
  /-- f(name, b): what the name holds is lent, whole -/
  | lend (f i : Nat) (b : E)
  /-- d.get(k, e) -/
  | dgd (a k e : E)
  /-- d[k] -/
  | dix (a k : E)
  /-- min(a, default=None), of pairs of tuples of ints -/
  | mnd (a : E)
  /-- {k1: a, k2: b}.get(k) -/
  | dg2 (k1 k2 : Str) (a b k : E)
  | comp (elt : E) (t : T) (it : I) (cond : List E) (own : List Nat)
inductive I where
  | of (e : E)
  | r1 (a : E)
  | r2 (a b : E)
  | r3 (a b c : E)
  /-- downwards, one by one -/
  | dn (a b : E)
  | zip (a b : E)
  | zip3 (a b c : E)
  | enum (a : E)
end

inductive WE where
  | e (e : E)
  | new (e : E)
  | cell (e : E)
  | call (f : Nat) (es : List E)
  | sel (fs : List Nat) (k : E) (es : List E)
  | mv (i : Nat)
  | tw (ws : List WE)
  /-- a comprehension of new lists -/
  | compL (elt : E) (t : T) (it : I) (own : List Nat)
  /-- what a call's tuple has at a place -/
  | pick (k : Nat) (f : Nat) (es : List E)
  /-- a tuple of a thing and a new list -/
  | pr (a b : E)
  /-- a list of new lists, written out -/
  | lws (es : List E)
  /-- a comprehension of a call's values -/
  | compW (f : Nat) (es : List E) (t : T) (it : I) (own : List Nat)

inductive S where
  | asg (t : T) (e : E)
  | asgO (i : Nat) (w : WE)
  | par (i j : Nat) (a b : E)
  | parO (i j : Nat) (a b : WE)
  | aug (i : Nat) (o : Bop) (e : E)
  | setI (i : Nat) (k e : E)
  | setC (i : Nat) (k e : E)
  /-- name[k] = e, of a dict -/
  | putD (i : Nat) (k e : E)
  /-- a name's dict is locked, for good -/
  | lockD (i : Nat)
  | setII (i : Nat) (k l e : E)
  | app (i : Nat) (e : E)
  | appI (i : Nat) (k e : E)
  | ext (i : Nat) (e : E)
  | expr (e : E)
  | ife (c : E) (a b : List S)
  | whl (c : E) (b : List S)
  | for_ (t : T) (it : I) (b : List S)
  | ret (e : E)
  | retW (w : WE)
  /-- a tuple of two names' things is handed back -/
  | ret2 (i j : Nat)
  | rais (c : Nat)
  /-- try: b; except DrawError as e: return kind_of(e); i: e's slot, ks: the words by the classes -/
  | tri (b : List S) (i : Nat) (ks : List Str)
  /-- the body of kind_of -/
  | kin (cs ws : List (List Str))
  | frz (i : Nat)
  | pass
  /-- what is never come to -/
  | junk
  /-- for t in it: if c: b, where b hands something back: nothing is changed -/
  | forI (t : T) (it : I) (c : E) (b : List S)
/-! ### operations on data -/
mutual
def eqD : D → D → Bool
  | .non, .non => true
  | .bool a, .bool b => a == b
  | .bool a, .int j => (if a then 1 else 0) == j
  | .int i, .bool b => i == (if b then 1 else 0)
  | .int i, .int j => i == j
  | .str x, .str y => x == y
  | .tup xs, .tup ys => eqDs xs ys
  | .lst xs, .lst ys => eqDs xs ys
  | _, _ => false
def eqDs : List D → List D → Bool
  | [], [] => true
  | x :: xs, y :: ys => eqD x y && eqDs xs ys
  | _, _ => false
end
mutual
/-- no list in it, no dict, nothing shared -/
def nolist : D → Bool
  | .non => true
  | .bool _ => true
  | .int _ => true
  | .str _ => true
  | .tup xs => nolists xs
  | _ => false
def nolists : List D → Bool
  | [] => true
  | x :: xs => nolist x && nolists xs
end
/-- plain data of at most such a depth -/
def shal : Nat → D → Bool
  | _, .non => true
  | _, .bool _ => true
  | _, .int _ => true
  | _, .str s => s.cps.all (· < 0x110000)
  | n + 1, .tup xs => xs.all (shal n)
  | n + 1, .lst xs => xs.all (shal n)
  | _, _ => false
def lim : Nat := 1000000
def mulOk (i j : Int) : Bool := decide (i.natAbs.log2 + j.natAbs.log2 < 100000000)
def divOk (j : Int) : Bool := decide (j ≠ 0) && decide (j.natAbs.log2 < 9000)
def powOk (i j : Int) : Bool := decide (0 ≤ j) && decide (j ≤ 1000) && decide (i.natAbs < 1000)

def rep (xs : List D) (k : Int) : List D := (List.replicate k.toNat xs).flatten

def binop : Bop → D → D → Option D
  | .add, .int i, .int j => some (.int (i + j))
  | .add, .str x, .str y => if x.length + y.length ≤ lim then some (.str (x ++ y)) else none
  | .add, .tup xs, .tup ys => if xs.length + ys.length ≤ lim then some (.tup (xs ++ ys)) else none
  | .add, .lst xs, .lst ys => if xs.length + ys.length ≤ lim then some (.lst (xs ++ ys)) else none
  | .sub, .int i, .int j => some (.int (i - j))
  | .mul, .int i, .int j => if mulOk i j then some (.int (i * j)) else none
  | .mul, .tup xs, .int k => if xs ≠ [] ∧ 1 ≤ k ∧ k ≤ 1000 ∧ xs.length ≤ 1000 then some (.tup (rep xs k)) else none
  | .mul, .lst xs, .int k => if xs.length * k.toNat ≤ lim ∧ k.natAbs ≤ lim then some (.lst (rep xs k)) else none
  | .fdiv, .int i, .int j => if divOk j then some (.int (i.fdiv j)) else none
  | .mod, .int i, .int j => if j ≠ 0 then some (.int (i.fmod j)) else none
  | .pow, .int i, .int j => if powOk i j then some (.int (i ^ j.toNat)) else none
  | _, _, _ => none
def D.items : D → Option (List D)
  | .tup xs => some xs
  | .lst xs => some xs
  | _ => none
def ltInts : List Int → List Int → Bool
  | [], [] => false
  | [], _ :: _ => true
  | _ :: _, [] => false
  | a :: as, b :: bs => if a = b then ltInts as bs else decide (a < b)
def intsOf : List D → Option (List Int)
  | [] => some []
  | .int i :: ds => (intsOf ds).map (i :: ·)
  | _ => none
def boolsOf : List D → Option (List Bool)
  | [] => some []
  | .bool i :: ds => (boolsOf ds).map (i :: ·)
  | _ => none
def strsOf : List D → Option (List Str)
  | [] => some []
  | .str i :: ds => (strsOf ds).map (i :: ·)
  | _ => none
def isIn (x : D) : D → Option Bool
  | .str z => match x with
    | .str y => match y.cps.toList with
      | [c] => some (decide (c ∈ z.cps.toList))
      | _ => none
    | _ => none
  | .tup xs => if shal 12 x && xs.all (shal 12) then some (xs.any (eqD · x)) else none
  | .lst xs => if shal 12 x && xs.all (shal 12) then some (xs.any (eqD · x)) else none
  | _ => none
def cmpop : Cop → D → D → Option Bool
  | .eq, a, b => if shal 12 a && shal 12 b then some (eqD a b) else none
  | .ne, a, b => if shal 12 a && shal 12 b then some (!eqD a b) else none
  | .lt, .int i, .int j => some (decide (i < j))
  | .le, .int i, .int j => some (decide (i ≤ j))
  | .gt, .int i, .int j => some (decide (i > j))
  | .ge, .int i, .int j => some (decide (i ≥ j))
  | .lt, .tup xs, .tup ys => match intsOf xs, intsOf ys with
    | some is, some js => some (ltInts is js)
    | _, _ => none
  | .isin, x, y => isIn x y
  | .notin, x, y => (isIn x y).map (!·)
  | _, _, _ => none
/-- a place, counted from the end where it is below 0 -/
def place (n : Nat) (i : Int) : Option Nat :=
  if 0 ≤ i then (if i < n then some i.toNat else none) else (if 0 ≤ i + n then some (i + n).toNat else none)
def idxD : D → D → Option D
  | .tup xs, .int i => (place xs.length i).bind (xs[·]?)
  | .lst xs, .int i => (place xs.length i).bind (xs[·]?)
  | .scr xs, .int i => (place xs.length i).bind (xs[·]?)
  | .str s, .int i => if s.length ≤ lim then (place s.length i).bind fun k => (s.cps.toList[k]?).map fun c => .str ⟨#[c]⟩ else none
  | _, _ => none
def clampI (n : Nat) (i : Int) : Nat := if i < 0 then (i + n).toNat else min i.toNat n
def sliceL {α : Type} (xs : List α) (lo hi : Option Int) : List α :=
  let a := match lo with | some i => clampI xs.length i | none => 0
  let b := match hi with | some i => clampI xs.length i | none => xs.length
  (xs.drop a).take (b - a)
def sliceD (d : D) (lo hi : Option Int) : Option D := match d with
  | .tup xs => some (.tup (sliceL xs lo hi))
  | .lst xs => some (.lst (sliceL xs lo hi))
  | .str s => if s.length ≤ lim then some (.str ⟨(sliceL s.cps.toList lo hi).toArray⟩) else none
  | _ => none
def D.int? : D → Option Int
  | .int i => some i
  | _ => none
def revD : D → Option D
  | .tup xs => some (.tup xs.reverse)
  | .lst xs => some (.lst xs.reverse)
  | _ => none
def minI : List Int → Option Int
  | [] => none
  | x :: xs => some (xs.foldl min x)
def maxI : List Int → Option Int
  | [] => none
  | x :: xs => some (xs.foldl max x)
def D.len : D → Option Nat
  | .tup xs => some xs.length
  | .lst xs => some xs.length
  | .scr xs => some xs.length
  | .str s => if s.length ≤ lim then some s.length else none
  | _ => none
def insI (x : Int) : List Int → List Int
  | [] => [x]
  | y :: ys => if x ≤ y then x :: y :: ys else y :: insI x ys
def sortI : List Int → List Int
  | [] => []
  | x :: xs => insI x (sortI xs)
/-- pairs of whole numbers, as tuples compare -/
def twosOf : List D → Option (List (Int × Int))
  | [] => some []
  | .tup [.int i, .int j] :: ds => (twosOf ds).map ((i, j) :: ·)
  | _ => none
def leP (p q : Int × Int) : Bool := if p.1 = q.1 then decide (p.2 ≤ q.2) else decide (p.1 < q.1)
def insP (x : Int × Int) : List (Int × Int) → List (Int × Int)
  | [] => [x]
  | y :: ys => if leP x y then x :: y :: ys else y :: insP x ys
def sortP : List (Int × Int) → List (Int × Int)
  | [] => []
  | x :: xs => insP x (sortP xs)
def twoD (p : Int × Int) : D := .tup [.int p.1, .int p.2]
/-- pairs of a whole number and a text -/
def isOf : List D → Option (List (Int × Str))
  | [] => some []
  | .tup [.int i, .str s] :: ds => (isOf ds).map ((i, s) :: ·)
  | _ => none
def ltIS (p q : Int × Str) : Bool := if p.1 = q.1 then decide (p.2.cps.toList < q.2.cps.toList) else decide (p.1 < q.1)
def insIS (x : Int × Str) : List (Int × Str) → List (Int × Str)
  | [] => [x]
  | y :: ys => if ltIS y x then y :: insIS x ys else x :: y :: ys
def sortIS : List (Int × Str) → List (Int × Str)
  | [] => []
  | x :: xs => insIS x (sortIS xs)
def isD (p : Int × Str) : D := .tup [.int p.1, .str p.2]
def sortedD (ds : List D) : Option (List D) := match intsOf ds with
  | some is => some ((sortI is).map .int)
  | none => match twosOf ds with
    | some ps => some ((sortP ps).map twoD)
    | none => (isOf ds).map fun ps => (sortIS ps).map isD
/-- tuples of whole numbers -/
def rowsOf : List D → Option (List (List Int))
  | [] => some []
  | .tup ds :: r => (intsOf ds).bind fun is => (rowsOf r).map (is :: ·)
  | _ => none
def code64 : List Int → Int
  | [] => 0
  | d :: r => d * 64 ^ r.length + code64 r
/-- rows of one size, of small numbers, each behind the ones ahead of it -/
def risen (ks : List (List Int)) : Bool := decide (ks.length < 64) && ks.all (fun k => k.length == (ks.headD [0]).length && decide (1 ≤ k.length) && k.all fun x => decide (0 ≤ x) && decide (x < 64)) && decide (ks.Pairwise fun a b => code64 a < code64 b)
/-- the rules' words -/
def wordsR : List Str := [PySem.Str.ofString "all", PySem.Str.ofString "least", PySem.Str.ofString "next", PySem.Str.ofString "turn"]
/-- a text's parts between a sign -/
def splC (c : Nat) : List Nat → List Nat → List (List Nat)
  | acc, [] => [acc]
  | acc, d :: r => if d = c then acc :: splC c [] r else splC c (acc ++ [d]) r
def isDig (c : Nat) : Bool := decide (48 ≤ c) && decide (c ≤ 57)
def digVal (cs : List Nat) : Nat := cs.foldl (fun acc c => acc * 10 + (c - 48)) 0
/-- the least of pairs, the first of like ones -/
def minP : List (Int × Int) → Option (Int × Int)
  | [] => none
  | x :: xs => some (xs.foldl (fun a y => if leP a y then a else y) x)
def bi1 : Bi → D → Option D
  | .sortedset, .lst ds => (rowsOf ds).bind fun ks => if risen ks then some (.lst ds) else none
  | .sortedw, .lst ds => (strsOf ds).bind fun ss => if ss.isPerm wordsR then some (.lst (wordsR.map .str)) else none
  | .minp, .lst ds => (twosOf ds).bind fun ps => (minP ps).map twoD
  | .len, d => d.len.map fun (n : Nat) => .int n
  | .abs, .int i => some (.int (if i < 0 then -i else i))
  | .min1, d => (d.items.bind intsOf).bind fun is => (minI is).map .int
  | .max1, d => (d.items.bind intsOf).bind fun is => (maxI is).map .int
  | .sum, d => (d.items.bind intsOf).map fun is => .int is.sum
  | .all, .lst ds => (boolsOf ds).map fun bs => .bool (bs.all id)
  | .str, .int i => if i.natAbs.log2 < 1920 then some (.str (PySem.Str.ofString (toString i))) else none
  | .int, .str s => if s.length ≤ 600 ∧ s.cps.toList ≠ [] ∧ s.cps.toList.all isDig = true then some (.int (digVal s.cps.toList : Nat)) else none
  | .int, .int i => some (.int i)
  | .int, .bool b => some (.int (if b then 1 else 0))
  | .list, d => d.items.map .lst
  | .tuple, d => d.items.map .tup
  | .sorted, .lst ds => (sortedD ds).map .lst
  | .sorted, .tup ds => (intsOf ds).map fun is => .lst ((sortI is).map .int)
  | _, _ => none
def bi2 : Bi → D → D → Option D
  | .min2, .int i, .int j => some (.int (if j < i then j else i))
  | .max2, .int i, .int j => some (.int (if j > i then j else i))
  | _, _, _ => none
def isTy : D → Ty → Bool
  | .int _, .int => true
  | .bool _, .int => true
  | .bool _, .bool => true
  | .str _, .str => true
  | .tup _, .tuple => true
  | .lst _, .list => true
  | .dic _ _, .dict => true
  | _, _ => false
/-- isinstance, of what may be asked so -/
def isTys (x : D) (ts : List Ty) : Option Bool := match x with
  | .ref _ => none
  | .scr _ => none
  | .ldic _ _ => none
  | _ => some (ts.any (isTy x))
def countD (xs : List D) (x : D) : Nat := (xs.filter (eqD · x)).length
/-- the rules' words in great letters -/
def upT : List (Str × Str) := [(PySem.Str.ofString "all", PySem.Str.ofString "ALL"), (PySem.Str.ofString "least", PySem.Str.ofString "LEAST"), (PySem.Str.ofString "next", PySem.Str.ofString "NEXT"), (PySem.Str.ofString "turn", PySem.Str.ofString "TURN")]
def me0 : Me → D → Option D
  | .upper, .str s => (upT.lookup s).map .str
  | _, _ => none
def me1 : Me → D → D → Option D
  | .index, .tup ds, .int i => (intsOf ds).bind fun is => (is.findIdx? (· == i)).map fun (k : Nat) => .int k
  | .split, .str s, .str y => match y.cps.toList with
    | [c] => if s.length + 2 ≤ lim ∧ c < 256 then some (.lst ((splC c [] s.cps.toList).map fun l => .str ⟨l.toArray⟩)) else none
    | _ => none
  | .join, .str y, .lst ds => (strsOf ds).bind fun ss => if (ss.map (·.length)).sum + ss.length * y.length ≤ lim then some (.str (PySem.Str.join y ss)) else none
  | .count, .tup ds, x => if shal 12 x && ds.all (shal 12) then some (.int (countD ds x)) else none
  | _, _, _ => none
def me2 : Me → D → D → D → Option D
  | _, _, _, _ => none

def W.own? : W → Option (List D)
  | .own ds => some ds
  | _ => none
/-- the list at a place, its holder's own -/
def ownAt (ws : List W) (n : Int) : Option (List D) := (place ws.length n).bind fun p => (ws[p]?).bind W.own?
theorem ownAt_some {ws : List W} {n : Int} {ds : List D} (h : ownAt ws n = some ds) : ∃ q, place ws.length n = some q ∧ ws[q]? = some (.own ds) := by
  unfold ownAt at h
  obtain ⟨q, h1, h2⟩ := Option.bind_eq_some_iff.mp h
  obtain ⟨w, h3, h4⟩ := Option.bind_eq_some_iff.mp h2
  refine ⟨q, h1, ?_⟩
  cases w <;> cases h4
  exact h3
/-! ### the run -/
mutual
def bindT : T → D → Ev → Option Ev
  | .nm i, d, env => if i < env.length then some (env.set i (.fz d)) else none
  | .tp ts, d, env => match d with
    | .tup ds => bindTs ts ds env
    | _ => none
def bindTs : List T → List D → Ev → Option Ev
  | [], ds, env => match ds with
    | [] => some env
    | _ => none
  | t :: ts, ds, env => match ds with
    | d :: ds => (bindT t d env).bind fun env => bindTs ts ds env
    | [] => none
end
def wipe (env : Ev) : List Nat → Ev
  | [] => env
  | i :: is => wipe (env.set i .no) is
def rangeI (a b c : Int) : Option (List D) :=
  if a.natAbs ≤ lim ∧ b.natAbs ≤ lim ∧ 0 < c ∧ c ≤ lim then some ((List.range ((b - a + c - 1) / c).toNat).map fun (k : Nat) => .int (a + k * c)) else none
/-- downwards from a, above b -/
def rangeD (a b : Int) : Option (List D) :=
  if a.natAbs ≤ lim ∧ b.natAbs ≤ lim then some ((List.range (a - b).toNat).map fun (k : Nat) => .int (a - k)) else none
/-- no object, or a shared one, or one without a list -/
def flatD : D → Bool
  | .non => true
  | .bool _ => true
  | .int _ => true
  | .str _ => true
  | _ => false

/-- zip of three -/
def zip3D : List D → List D → List D → List D
  | x :: xs, y :: ys, z :: zs => .tup [x, y, z] :: zip3D xs ys zs
  | _, _, _ => []
abbrev CallT := Nat → List D → Store → R W

def compGo {α : Type} (t : T) (c : Ev → Store → R Bool) (f : Ev → Store → R α) : List D → Ev → Store → R (List α)
  | [], _, st => .ok [] st
  | x :: xs, env, st => match bindT t x env with
    | some env' => (c env' st).calm.bind fun b st => if b then (f env' st).calm.bind fun d st => (compGo t c f xs env st).bind fun ds st => .ok (d :: ds) st else compGo t c f xs env st
    | none => .bad

/-- a list comprehension's lists stay below a line -/
def lined (r : R (List D)) : R D := r.bind fun ds st => if ds.length ≤ lim then .ok (.lst ds) st else .bad

def cellPop (c : Cell) (i : Int) : Option (D × Cell) := match c with
  | .lst ds => if ds.length ≤ lim then (place ds.length i).bind fun k => (ds[k]?).map fun d => (d, .lst (ds.eraseIdx k)) else none

section
variable (cl : CallT)

def dicOf : D → Option (List D × List D)
  | .dic ks vs => some (ks, vs)
  | .ldic ks vs => some (ks, vs)
  | _ => none
/-- what a dict has at a number -/
def dfind : List D → List D → Int → Option D
  | k :: ks, v :: vs, n => match k with
    | .int m => if m = n then some v else dfind ks vs n
    | _ => dfind ks vs n
  | _, _, _ => none
def dsetv : List D → List D → Int → D → List D
  | k :: ks, v :: vs, n, d => match k with
    | .int m => (if m = n then d else v) :: dsetv ks vs n d
    | _ => v :: dsetv ks vs n d
  | _, _, _, _ => []
def isPr : D → Option (List Int × List Int)
  | .tup [.tup a, .tup b] => match intsOf a, intsOf b with
    | some x, some y => some (x, y)
    | _, _ => none
  | _ => none
def prD (p : List Int × List Int) : D := .tup [.tup (p.1.map .int), .tup (p.2.map .int)]
def prsOf : List D → Option (List (List Int × List Int))
  | [] => some []
  | d :: ds => match isPr d, prsOf ds with
    | some p, some ps => some (p :: ps)
    | _, _ => none
def ltPr (p q : List Int × List Int) : Bool := if p.1 = q.1 then ltInts p.2 q.2 else ltInts p.1 q.1
def minPr : List Int × List Int → List (List Int × List Int) → List Int × List Int
  | p, [] => p
  | p, q :: qs => minPr (if ltPr q p then q else p) qs
def minDf : D → Option D
  | .lst ds => match prsOf ds with
    | some [] => some .non
    | some (p :: ps) => some (prD (minPr p ps))
    | none => none
  | _ => none
mutual
def evE : E → Ev → Store → R D
  | .var i, env, st => match env[i]? with
    | some (.fz d) => .ok d st
    | _ => .bad
  | .varB i, env, st => match env[i]? with
    | some (.fz d) => .ok d st
    | some (.own ds) => .ok (.lst ds) st
    | some (.ownD ks vs) => .ok (.dic ks vs) st
    | _ => .bad
  | .cst d, _, st => .ok d st
  | .glo _ d, _, st => .ok d st
  | .bin o a b, env, st => (evE a env st).bind fun x st => (evE b env st).bind fun y st => .of (binop o x y) st
  | .neg a, env, st => (evE a env st).bind fun x st => match x with
    | .int i => .ok (.int (-i)) st
    | _ => .bad
  | .not a, env, st => (evE a env st).bind fun x st => match x with
    | .bool b => .ok (.bool (!b)) st
    | _ => .bad
  | .and a b, env, st => (evE a env st).bind fun x st => match x with
    | .bool true => evE b env st
    | .bool false => .ok (.bool false) st
    | _ => .bad
  | .or a b, env, st => (evE a env st).bind fun x st => match x with
    | .bool false => evE b env st
    | .bool true => .ok (.bool true) st
    | _ => .bad
  | .cmp o a b, env, st => (evE a env st).bind fun x st => (evE b env st).bind fun y st => .of ((cmpop o x y).map .bool) st
  | .isd a d pos, env, st => (evE a env st).bind fun x st => match d, x with
    | .non, .non => .ok (.bool pos) st
    | .non, _ => .ok (.bool (!pos)) st
    | .bool b, .bool c => .ok (.bool ((b == c) == pos)) st
    | _, _ => .bad
  | .chain o p a b c, env, st => (evE a env st).bind fun x st => (evE b env st).bind fun y st => match cmpop o x y with
    | some true => (evE c env st).bind fun z st => .of ((cmpop p y z).map .bool) st
    | some false => .ok (.bool false) st
    | none => .bad
  | .ite c a b, env, st => (evE c env st).bind fun x st => match x with
    | .bool true => evE a env st
    | .bool false => evE b env st
    | _ => .bad
  | .tup es, env, st => (evEs es env st).bind fun ds st => if ds.length ≤ lim then .ok (.tup ds) st else .bad
  | .lst es, env, st => (evEs es env st).bind fun ds st => if ds.length ≤ lim then .ok (.lst ds) st else .bad
  | .dic0, _, st => .ok (.dic [] []) st
  | .idx a i, env, st => (evE a env st).bind fun x st => (evE i env st).bind fun y st => .of (idxD x y) st
  | .idxC a i, env, st => (evE a env st).bind fun x st => (evE i env st).bind fun y st => match x with
    | .ref r => match st[r]? with
      | some (.lst ds) => .of (idxD (.lst ds) y) st
      | none => .bad
    | _ => .bad
  | .popC a i, env, st => (evE a env st).bind fun x st => match x with
    | .ref r => (evE i env st).bind fun y st => match y with
      | .int k => match (st[r]?).bind fun c => cellPop c k with
        | some (d, c) => .ok d (st.set r c)
        | none => .bad
      | _ => .bad
    | _ => .bad
  | .lenC a, env, st => (evE a env st).bind fun x st => match x with
    | .ref r => match st[r]? with
      | some (.lst ds) => .ok (.int ds.length) st
      | none => .bad
    | _ => .bad
  | .idx2 i k l, env, st => match env[i]? with
    | some (.lw ws) => (evE k env st).bind fun x st => match x with
      | .int n => (R.of (ownAt ws n) st).bind fun ds st => (evE l env st).bind fun y st => match y with
        | .int m => .of ((place ds.length m).bind (ds[·]?)) st
        | _ => .bad
      | _ => .bad
    | _ => .bad
  | .orv a b, env, st => (evE a env st).bind fun x st => match x with
    | .non => evE b env st
    | .int i => if i = 0 then evE b env st else .ok (.int i) st
    | _ => .bad
  | .sl a lo hi, env, st => (evE a env st).bind fun x st => (evE lo env st).bind fun y st => match y with
    | .int i => (evE hi env st).bind fun z st => match z with
      | .int j => .of (sliceD x (some i) (some j)) st
      | _ => .bad
    | _ => .bad
  | .slF a lo, env, st => (evE a env st).bind fun x st => (evE lo env st).bind fun y st => match y with
    | .int i => .of (sliceD x (some i) none) st
    | _ => .bad
  | .slT a hi, env, st => (evE a env st).bind fun x st => (evE hi env st).bind fun y st => match y with
    | .int i => .of (sliceD x none (some i)) st
    | _ => .bad
  | .rev a, env, st => (evE a env st).bind fun x st => .of (revD x) st
  | .call f es, env, st => (evEs es env st).bind fun ds st => (cl f ds st).bind fun w st => .ok w.d st
  | .callB f es, env, st => (evEs es env st).bind fun ds st => (cl f ds st).bind fun w st => if flatD w.d then .ok w.d st else .bad
  | .sel fs k es, env, st => (evE k env st).bind fun x st => match x with
    | .int i => match (place fs.length i).bind (fs[·]?) with
      | some f => (evEs es env st).bind fun ds st => (cl f ds st).bind fun w st => .ok w.d st
      | none => .bad
    | _ => .bad
  | .b1 b a, env, st => (evE a env st).bind fun x st => .of (bi1 b x) st
  | .b2 b a c, env, st => (evE a env st).bind fun x st => (evE c env st).bind fun y st => .of (bi2 b x y) st
  | .lof it, env, st => lined (evI it env st)
  | .isi a ts, env, st => (evE a env st).bind fun x st => .of ((isTys x ts).map .bool) st
  | .m0 m a, env, st => (evE a env st).bind fun x st => .of (me0 m x) st
  | .m1 m a b, env, st => (evE a env st).bind fun x st => match x with
    | .tup xs => (evE b env st).bind fun y st => .of (me1 m (.tup xs) y) st
    | _ => .bad
  | .ms m a b, env, st => (evE a env st).bind fun x st => match x with
    | .str s => (evE b env st).bind fun y st => .of (me1 m (.str s) y) st
    | _ => .bad
  | .m2 m a b c, env, st => (evE a env st).bind fun x st => (evE b env st).bind fun y st => (evE c env st).bind fun z st => .of (me2 m x y z) st
  | .lend f i b, env, st => match env[i]? with
    | some .no => .bad
    | some w => (evE b env st).bind fun y st => (cl f [w.d, y] st).bind fun v st => if flatD v.d then .ok v.d st else .bad
    | none => .bad
  | .dgd a k e, env, st => (evE a env st).bind fun x st => match dicOf x with
    | some p => (evE k env st).bind fun y st => (evE e env st).bind fun z st => match y with
      | .int n => .ok ((dfind p.1 p.2 n).getD z) st
      | _ => .bad
    | none => .bad
  | .dix a k, env, st => (evE a env st).bind fun x st => match dicOf x with
    | some p => (evE k env st).bind fun y st => match y with
      | .int n => .of (dfind p.1 p.2 n) st
      | _ => .bad
    | none => .bad
  | .mnd a, env, st => (evE a env st).bind fun x st => .of (minDf x) st
  | .dg2 k1 k2 a b k, env, st => (evE a env st).bind fun x st => (evE b env st).bind fun y st => (evE k env st).bind fun z st => match z with
    | .str s => .ok (if s = k2 then y else if s = k1 then x else .non) st
    | _ => .bad
  | .comp elt t it cond own, env, st => (evI it env st).bind fun xs st =>
    lined (compGo t (fun env st => evC cond env st) (fun env st => evE elt env st) xs (wipe env own) st)
def evEs : List E → Ev → Store → R (List D)
  | [], _, st => .ok [] st
  | e :: es, env, st => (evE e env st).bind fun d st => (evEs es env st).bind fun ds st => .ok (d :: ds) st
/-- the tests of a comprehension -/
def evC : List E → Ev → Store → R Bool
  | [], _, st => .ok true st
  | e :: _, env, st => (evE e env st).bind fun d st => match d with
    | .bool b => .ok b st
    | _ => .bad
def evI : I → Ev → Store → R (List D)
  | .of e, env, st => (evE e env st).bind fun d st => match d with
    | .tup xs => .ok xs st
    | .lst xs => .ok xs st
    | .str s => if s.length ≤ lim then .ok (s.cps.toList.map fun c => .str ⟨#[c]⟩) st else .bad
    | .ldic ks _ => .ok ks st
    | _ => .bad
  | .r1 a, env, st => (evE a env st).bind fun x st => match x with
    | .int j => .of (rangeI 0 j 1) st
    | _ => .bad
  | .r2 a b, env, st => (evE a env st).bind fun x st => (evE b env st).bind fun y st => match x, y with
    | .int i, .int j => .of (rangeI i j 1) st
    | _, _ => .bad
  | .r3 a b c, env, st => (evE a env st).bind fun x st => (evE b env st).bind fun y st => (evE c env st).bind fun z st => match x, y, z with
    | .int i, .int j, .int k => .of (rangeI i j k) st
    | _, _, _ => .bad
  | .dn a b, env, st => (evE a env st).bind fun x st => (evE b env st).bind fun y st => match x, y with
    | .int i, .int j => .of (rangeD i j) st
    | _, _ => .bad
  | .zip a b, env, st => (evE a env st).bind fun x st => (evE b env st).bind fun y st => match x.items, y.items with
    | some xs, some ys => .ok (List.zipWith (fun x y => .tup [x, y]) xs ys) st
    | _, _ => .bad
  | .zip3 a b c, env, st => (evE a env st).bind fun x st => (evE b env st).bind fun y st => (evE c env st).bind fun z st => match x.items, y.items, z.items with
    | some xs, some ys, some zs => .ok (zip3D xs ys zs) st
    | _, _, _ => .bad
  | .enum a, env, st => (evE a env st).bind fun x st => match x.items with
    | some xs => .ok (xs.mapIdx fun i x => .tup [.int i, x]) st
    | none => .bad
end
end

inductive Fl where
  | next (env : Ev)
  | ret (w : W)

def forGo (t : T) (body : Ev → Store → R Fl) : List D → Ev → Store → R Fl
  | [], env, st => .ok (.next env) st
  | x :: xs, env, st => match bindT t x env with
    | some env' => (body env' st).bind fun fl st => match fl with
      | .next env => forGo t body xs env st
      | .ret w => .ok (.ret w) st
    | none => .bad
/-- a while's first turns: none, where they have not come to an end -/
def whN (c : Ev → Store → R Bool) (b : Ev → Store → R Fl) : Nat → Ev → Store → Option (R Fl)
  | 0, _, _ => none
  | n + 1, env, st => match c env st with
    | .ok false st => some (.ok (.next env) st)
    | .ok true st => match b env st with
      | .ok (.next env) st => whN c b n env st
      | .ok (.ret w) st => some (.ok (.ret w) st)
      | .exc k st => some (.exc k st)
      | .bad => some .bad
    | .exc k st => some (.exc k st)
    | .bad => some .bad
open Classical in
noncomputable def whC (c : Ev → Store → R Bool) (b : Ev → Store → R Fl) (env : Ev) (st : Store) : R Fl :=
  if h : ∃ r n, whN c b n env st = some r then Classical.choose h else .bad

theorem whN_mono {c : Ev → Store → R Bool} {b : Ev → Store → R Fl} : ∀ {n m : Nat} {env : Ev} {st : Store} {r : R Fl}, whN c b n env st = some r → n ≤ m → whN c b m env st = some r
  | 0, _, _, _, _, h, _ => by simp [whN] at h
  | n + 1, 0, _, _, _, _, h => by omega
  | n + 1, m + 1, env, st, r, h, hm => by
    unfold whN at h ⊢
    split at h
    · exact h
    · split at h
      · exact whN_mono h (by omega)
      · exact h
      · exact h
      · exact h
    · exact h
    · exact h
theorem whC_of {c : Ev → Store → R Bool} {b : Ev → Store → R Fl} {n : Nat} {env : Ev} {st : Store} {r : R Fl} (h : whN c b n env st = some r) : whC c b env st = r := by
  unfold whC
  have hx : ∃ r n, whN c b n env st = some r := ⟨r, n, h⟩
  rw [dif_pos hx]
  obtain ⟨m, hm⟩ := Classical.choose_spec hx
  have h1 := whN_mono h (Nat.le_max_left n m)
  have h2 := whN_mono hm (Nat.le_max_right n m)
  rw [h1] at h2
  exact (Option.some.inj h2).symm
/-- where a while has an end at all, it has it in so many turns -/
theorem whC_ends {c : Ev → Store → R Bool} {b : Ev → Store → R Fl} {env : Ev} {st : Store} {r : R Fl} (h : whC c b env st = r) (hr : r ≠ .bad) : ∃ n, whN c b n env st = some r := by
  unfold whC at h
  split at h
  · rename_i hx
    obtain ⟨m, hm⟩ := Classical.choose_spec hx
    exact ⟨m, by rw [hm, h]⟩
  · exact absurd h.symm hr
theorem whC_eq (c : Ev → Store → R Bool) (b : Ev → Store → R Fl) (env : Ev) (st : Store) :
    whC c b env st = (c env st).bind fun k st => if k then (b env st).bind fun fl st => match fl with
      | .next env => whC c b env st
      | .ret w => .ok (.ret w) st
    else .ok (.next env) st := by
  rcases h1 : c env st with ⟨k, st1⟩ | ⟨k, st1⟩ | _
  · cases k with
    | false => exact whC_of (n := 1) (by unfold whN; rw [h1]; rfl)
    | true =>
      simp only [R.bind_ok, if_true]
      rcases h2 : b env st1 with ⟨fl, st2⟩ | ⟨k2, st2⟩ | _
      · cases fl with
        | ret w => exact whC_of (n := 1) (by unfold whN; rw [h1]; simp only [h2]; rfl)
        | next env2 =>
          simp only [R.bind_ok]
          have e : ∀ n, whN c b (n + 1) env st = whN c b n env2 st2 := fun n => by
            conv => lhs; unfold whN
            rw [h1]; simp only [h2]
          by_cases hx : ∃ r n, whN c b n env2 st2 = some r
          · obtain ⟨r, n, hn⟩ := hx
            rw [whC_of hn]
            exact whC_of (n := n + 1) ((e n).trans hn)
          · have hy : ¬ ∃ r n, whN c b n env st = some r := by
              rintro ⟨r, n, hn⟩
              cases n with
              | zero => simp [whN] at hn
              | succ n => exact hx ⟨r, n, (e n).symm.trans hn⟩
            unfold whC
            rw [dif_neg hx, dif_neg hy]
      · exact whC_of (n := 1) (by unfold whN; rw [h1]; simp only [h2]; rfl)
      · exact whC_of (n := 1) (by unfold whN; rw [h1]; simp only [h2]; rfl)
  · exact whC_of (n := 1) (by unfold whN; rw [h1]; rfl)
  · exact whC_of (n := 1) (by unfold whN; rw [h1]; rfl)


def newW : D → Option W
  | .lst ds => some (.own ds)
  | .dic [] [] => some (.ownD [] [])
  | _ => none
/-- a cell's item is set -/
def setCell (c : Cell) (k d : D) : Option Cell := match c with
  | .lst ds => if nolist d then match k with
    | .int i => (place ds.length i).map fun j => .lst (ds.set j d)
    | _ => none
    else none
def ownsOf : List D → Option (List W)
  | [] => some []
  | .lst ds :: xs => (ownsOf xs).map fun ws => .own ds :: ws
  | _ => none

section
variable (cl : CallT)
mutual
def evW : WE → Ev → Store → R W
  | .e e, env, st => (evE cl e env st).bind fun d st => .ok (.fz d) st
  | .new e, env, st => (evE cl e env st).bind fun d st => .of (newW d) st
  | .cell e, env, st => (evE cl e env st).bind fun d st => match d with
    | .lst ds => if nolists ds then .ok (.fz (.ref st.length)) (st ++ [.lst ds]) else .bad
    | _ => .bad
  | .call f es, env, st => (evEs cl es env st).bind fun ds st => cl f ds st
  | .sel fs k es, env, st => (evE cl k env st).bind fun x st => match x with
    | .int i => match (place fs.length i).bind (fs[·]?) with
      | some f => (evEs cl es env st).bind fun ds st => cl f ds st
      | none => .bad
    | _ => .bad
  | .mv i, env, st => match env[i]? with
    | some .no => .bad
    | some w => .ok w st
    | none => .bad
  | .tw ws, env, st => (evWs ws env st).bind fun vs st => if vs.length ≤ lim then .ok (.tw vs) st else .bad
  | .compL elt t it own, env, st => (evI cl it env st).bind fun xs st =>
    (compGo t (fun _ st => .ok true st) (fun env st => evE cl elt env st) xs (wipe env own) st).bind fun ds st => if ds.length ≤ lim then match ownsOf ds with
      | some ws => .ok (.lw ws) st
      | none => .bad
      else .bad
  | .pick k f es, env, st => (evEs cl es env st).bind fun ds st => (cl f ds st).bind fun w st => match w with
    | .tw ws => match ws[k]? with
      | some v => .ok v st
      | none => .bad
    | _ => .bad
  | .lws es, env, st => (evEs cl es env st).bind fun ds st => if ds.length ≤ lim then match ownsOf ds with
      | some ws => .ok (.lw ws) st
      | none => .bad
      else .bad
  | .pr a b, env, st => (evE cl a env st).bind fun x st => (evE cl b env st).bind fun y st => match y with
    | .lst ds => .ok (.tw [.fz x, .own ds]) st
    | _ => .bad
  | .compW f es t it own, env, st => (evI cl it env st).bind fun xs st =>
    (compGo t (fun _ st => .ok true st) (fun env st => (evEs cl es env st).bind fun ds st => cl f ds st) xs (wipe env own) st).bind fun ws st => if ws.length ≤ lim then .ok (.lw ws) st else .bad
def evWs : List WE → Ev → Store → R (List W)
  | [], _, st => .ok [] st
  | w :: ws, env, st => (evW w env st).bind fun v st => (evWs ws env st).bind fun vs st => .ok (v :: vs) st
end

def tested (r : R D) : R Bool := r.bind fun d st => match d with
  | .bool b => .ok b st
  | _ => .bad
def setSlot (env : Ev) (i : Nat) (f : W → Option W) (st : Store) : R Fl := match env[i]? with
  | some w => match f w with
    | some w' => .ok (.next (env.set i w')) st
    | none => .bad
  | none => .bad
/-- the word of a class; the first class has none -/
def wordOf (ks : List Str) : Nat → Option Str
  | 0 => none
  | c + 1 => ks[c]?
def blank (env : Ev) : Ev := env.map fun _ => .no
def noNext : R Fl → R Fl
  | .ok (.next _) _ => .bad
  | r => r
def dputW (ks vs : List D) (n : Int) (d : D) : W := match dfind ks vs n with
  | some _ => .ownD ks (dsetv ks vs n d)
  | none => .ownD (ks ++ [.int n]) (vs ++ [d])
def frzW : W → Option W
  | .no => none
  | w => some (.fz w.d)
def lockW : W → Option W
  | .ownD ks vs => some (.fz (.ldic ks vs))
  | _ => none

mutual
noncomputable def evS : S → Ev → Store → R Fl
  | .asg t e, env, st => (evE cl e env st).bind fun d st => .of ((bindT t d env).map .next) st
  | .asgO i w, env, st => (evW cl w env st).bind fun v st => if i < env.length then .ok (.next (env.set i v)) st else .bad
  | .par i j a b, env, st => (evE cl a env st).bind fun x st => (evE cl b env st).bind fun y st => if i < env.length ∧ j < env.length then .ok (.next ((env.set i (.fz x)).set j (.fz y))) st else .bad
  | .parO i j a b, env, st => (evW cl a env st).bind fun x st => (evW cl b env st).bind fun y st => if i < env.length ∧ j < env.length then .ok (.next ((env.set i x).set j y)) st else .bad
  | .aug i o e, env, st => match env[i]? with
    | some (.fz (.int x)) => (evE cl e env st).bind fun y st => match y with
      | .int j => .of ((binop o (.int x) (.int j)).map fun z => .next (env.set i (.fz z))) st
      | _ => .bad
    | _ => .bad
  | .setI i k e, env, st => (evE cl e env st).bind fun d st => match env[i]? with
    | some (.own ds) => (evE cl k env st).bind fun x st => match x with
      | .int n => match place ds.length n with
        | some j => .ok (.next (env.set i (.own (ds.set j d)))) st
        | none => .bad
      | _ => .bad
    | _ => .bad
  | .setC i k e, env, st => (evE cl e env st).bind fun d st => match env[i]? with
    | some (.fz (.ref r)) => (evE cl k env st).bind fun x st => match (st[r]?).bind fun c => setCell c x d with
      | some c => .ok (.next env) (st.set r c)
      | none => .bad
    | _ => .bad
  | .putD i k e, env, st => (evE cl e env st).bind fun d st => match env[i]? with
    | some (.ownD ks vs) => (evE cl k env st).bind fun x st => match x with
      | .int n => if ks.length < lim then .ok (.next (env.set i (dputW ks vs n d))) st else .bad
      | _ => .bad
    | _ => .bad
  | .lockD i, env, st => setSlot env i lockW st
  | .setII i k l e, env, st => (evE cl e env st).bind fun d st => match env[i]? with
    | some (.lw ws) => (evE cl k env st).bind fun x st => match x with
      | .int n => match place ws.length n with
        | some p => match ws[p]? with
          | some (.own ds) => (evE cl l env st).bind fun y st => match y with
            | .int m => match place ds.length m with
              | some j => .ok (.next (env.set i (.lw (ws.set p (.own (ds.set j d)))))) st
              | none => .bad
            | _ => .bad
          | _ => .bad
        | none => .bad
      | _ => .bad
    | _ => .bad
  | .app i e, env, st => match env[i]? with
    | some (.own ds) => (evE cl e env st).bind fun d st => if ds.length < lim then .ok (.next (env.set i (.own (ds ++ [d])))) st else .bad
    | _ => .bad
  | .ret2 i j, env, st => match env[i]?, env[j]? with
    | some (.own ds), some (.own es) => .ok (.ret (.tw [.own ds, .own es])) st
    | _, _ => .bad
  | .appI i k e, env, st => match env[i]? with
    | some (.lw ws) => (evE cl k env st).bind fun x st => match x with
      | .int n => match place ws.length n with
        | some p => match ws[p]? with
          | some (.own ds) => (evE cl e env st).bind fun d st => if ds.length < lim then .ok (.next (env.set i (.lw (ws.set p (.own (ds ++ [d])))))) st else .bad
          | _ => .bad
        | none => .bad
      | _ => .bad
    | some (.tw ws) => (evE cl k env st).bind fun x st => match x with
      | .int n => match place ws.length n with
        | some p => match ws[p]? with
          | some (.own ds) => (evE cl e env st).bind fun d st => if ds.length < lim then .ok (.next (env.set i (.tw (ws.set p (.own (ds ++ [d])))))) st else .bad
          | _ => .bad
        | none => .bad
      | _ => .bad
    | _ => .bad
  | .ext i e, env, st => match env[i]? with
    | some (.own ds) => (evE cl e env st).bind fun d st => match d with
      | .lst es => if ds.length + es.length ≤ lim then .ok (.next (env.set i (.own (ds ++ es)))) st else .bad
      | _ => .bad
    | _ => .bad
  | .expr e, env, st => (evE cl e env st).bind fun _ st => .ok (.next env) st
  | .ife c a b, env, st => (tested (evE cl c env st)).bind fun k st => if k then evSs a env st else evSs b env st
  | .whl c b, env, st => whC (fun env st => tested (evE cl c env st)) (fun env st => evSs b env st) env st
  | .for_ t it b, env, st => (evI cl it env st).bind fun xs st => forGo t (fun env st => evSs b env st) xs env st
  | .ret e, env, st => (evE cl e env st).bind fun d st => .ok (.ret (.fz d)) st
  | .retW w, env, st => (evW cl w env st).bind fun v st => .ok (.ret v) st
  | .rais c, _, st => .exc c st
  | .tri b _ ks, env, st => match evSs b env st with
    | .exc c st => match wordOf ks c with
      | some w => .ok (.ret (.fz (.str w))) st
      | none => .bad
    | r => r
  | .kin _ _, _, _ => .bad
  | .frz i, env, st => setSlot env i frzW st
  | .pass, env, st => .ok (.next env) st
  | .junk, _, _ => .bad
  | .forI t it c b, env, st => (evI cl it env st).bind fun xs st => forGo t (fun env st => (tested (evE cl c env st)).bind fun k st => if k then noNext (evSs b env st) else .ok (.next env) st) xs env st
noncomputable def evSs : List S → Ev → Store → R Fl
  | [], env, st => .ok (.next env) st
  | s :: ss, env, st => (evS s env st).bind fun fl st => match fl with
    | .next env => evSs ss env st
    | .ret w => .ok (.ret w) st
end
end

/-- a def: how many parameters, how many slots, the body -/
structure Fn where
  np : Nat
  ns : Nat
  body : List S
def startE (f : Fn) (ds : List D) : Ev := ds.map .fz ++ List.replicate (f.ns - ds.length) .no
noncomputable def runF (cl : CallT) (f : Fn) (ds : List D) (st : Store) : R W :=
  if ds.length = f.np then (evSs cl f.body (startE f ds) st).bind fun fl st => match fl with
    | .next _ => .ok (.fz .non) st
    | .ret w => .ok w st
  else .bad
noncomputable def callN (fns : List Fn) : Nat → CallT
  | 0 => fun _ _ _ => .bad
  | n + 1 => fun f ds st => match fns[f]? with
    | some fn => runF (callN fns n) fn ds st
    | none => .bad
end DD

set_option Elab.async false
set_option linter.all false
set_option maxRecDepth 100000
set_option maxHeartbeats 1000000
/-! sorting, plain -/
namespace DD
theorem insI_perm (x : Int) : ∀ ys : List Int, (insI x ys).Perm (x :: ys)
  | [] => .refl _
  | y :: ys => by
    unfold insI
    split
    · exact .refl _
    · exact ((insI_perm x ys).cons y).trans (.swap x y ys)
theorem sortI_perm : ∀ xs : List Int, (sortI xs).Perm xs
  | [] => .refl _
  | x :: xs => (insI_perm x (sortI xs)).trans ((sortI_perm xs).cons x)
theorem insI_sorted (x : Int) : ∀ {ys : List Int}, ys.Pairwise (· ≤ ·) → (insI x ys).Pairwise (· ≤ ·)
  | [], _ => by simp [insI]
  | y :: ys, h => by
    unfold insI
    split
    · rename_i hxy
      refine List.pairwise_cons.mpr ⟨fun z hz => ?_, h⟩
      rcases List.mem_cons.mp hz with rfl | hz
      · exact hxy
      · have := (List.pairwise_cons.mp h).1 z hz; omega
    · rename_i hxy
      refine List.pairwise_cons.mpr ⟨fun z hz => ?_, insI_sorted x (List.pairwise_cons.mp h).2⟩
      rcases List.mem_cons.mp ((insI_perm x ys).mem_iff.mp hz) with rfl | hz
      · omega
      · exact (List.pairwise_cons.mp h).1 z hz
theorem sortI_sorted : ∀ xs : List Int, (sortI xs).Pairwise (· ≤ ·)
  | [] => .nil
  | x :: xs => insI_sorted x (sortI_sorted xs)
theorem sortI_uniq {xs ys : List Int} (hp : ys.Perm xs) (hs : ys.Pairwise (· ≤ ·)) : ys = sortI xs :=
  List.Perm.eq_of_pairwise (fun a b _ _ h1 h2 => Int.le_antisymm h1 h2) hs (sortI_sorted xs) (hp.trans (sortI_perm xs).symm)
theorem insP_perm (x : Int × Int) : ∀ ys : List (Int × Int), (insP x ys).Perm (x :: ys)
  | [] => .refl _
  | y :: ys => by
    unfold insP
    split
    · exact .refl _
    · exact ((insP_perm x ys).cons y).trans (.swap x y ys)
theorem sortP_perm : ∀ xs : List (Int × Int), (sortP xs).Perm xs
  | [] => .refl _
  | x :: xs => (insP_perm x (sortP xs)).trans ((sortP_perm xs).cons x)
theorem leP_iff {p q : Int × Int} : leP p q = true ↔ p.1 < q.1 ∨ (p.1 = q.1 ∧ p.2 ≤ q.2) := by
  unfold leP
  split
  · rename_i h; simp [h]
  · rename_i h; simp [h]
theorem leP_total {p q : Int × Int} (h : ¬ leP p q = true) : leP q p = true := by
  rw [leP_iff] at h ⊢; omega
theorem leP_trans {p q r : Int × Int} (h1 : leP p q = true) (h2 : leP q r = true) : leP p r = true := by
  rw [leP_iff] at *; omega
theorem leP_antisymm {p q : Int × Int} (h1 : leP p q = true) (h2 : leP q p = true) : p = q := by
  rw [leP_iff] at *; exact Prod.ext (by omega) (by omega)
theorem insP_sorted (x : Int × Int) : ∀ {ys : List (Int × Int)}, ys.Pairwise (fun p q => leP p q = true) → (insP x ys).Pairwise (fun p q => leP p q = true)
  | [], _ => by simp [insP]
  | y :: ys, h => by
    unfold insP
    split
    · rename_i hxy
      refine List.pairwise_cons.mpr ⟨fun z hz => ?_, h⟩
      rcases List.mem_cons.mp hz with rfl | hz
      · exact hxy
      · exact leP_trans hxy ((List.pairwise_cons.mp h).1 z hz)
    · rename_i hxy
      refine List.pairwise_cons.mpr ⟨fun z hz => ?_, insP_sorted x (List.pairwise_cons.mp h).2⟩
      rcases List.mem_cons.mp ((insP_perm x ys).mem_iff.mp hz) with rfl | hz
      · exact leP_total hxy
      · exact (List.pairwise_cons.mp h).1 z hz
theorem sortP_sorted : ∀ xs : List (Int × Int), (sortP xs).Pairwise (fun p q => leP p q = true)
  | [] => .nil
  | x :: xs => insP_sorted x (sortP_sorted xs)
theorem sortP_uniq {xs ys : List (Int × Int)} (hp : ys.Perm xs) (hs : ys.Pairwise (fun p q => leP p q = true)) : ys = sortP xs :=
  List.Perm.eq_of_pairwise (fun a b _ _ h1 h2 => leP_antisymm h1 h2) hs (sortP_sorted xs) (hp.trans (sortP_perm xs).symm)
end DD
namespace DD
open PySem (Str)
theorem strL_inj {a b : Str} (h : a.cps.toList = b.cps.toList) : a = b := by
  cases a; cases b
  exact congrArg _ (Array.toList_inj.mp h)
theorem ltIS_asym {p q : Int × Str} (h : ltIS p q = true) : ltIS q p = false := by
  unfold ltIS at *
  split at h
  · rename_i e
    rw [if_pos e.symm]
    exact decide_eq_false (List.lt_asymm (of_decide_eq_true h))
  · rename_i e
    rw [if_neg (fun z => e z.symm)]
    have := of_decide_eq_true h
    exact decide_eq_false (by omega)
theorem ltIS_tr {p q r : Int × Str} (h1 : ltIS q p = false) (h2 : ltIS r q = false) : ltIS r p = false := by
  unfold ltIS at *
  by_cases e1 : q.1 = p.1
  · rw [if_pos e1] at h1
    by_cases e2 : r.1 = q.1
    · rw [if_pos e2] at h2
      rw [if_pos (e2.trans e1)]
      have a := of_decide_eq_false h1
      have b := of_decide_eq_false h2
      refine decide_eq_false ?_
      rw [List.not_lt] at *
      exact List.le_trans a b
    · rw [if_neg e2] at h2
      have b := of_decide_eq_false h2
      rw [if_neg (by omega)]
      exact decide_eq_false (by omega)
  · rw [if_neg e1] at h1
    have a := of_decide_eq_false h1
    by_cases e2 : r.1 = q.1
    · rw [if_neg (by omega)]
      exact decide_eq_false (by omega)
    · rw [if_neg e2] at h2
      have b := of_decide_eq_false h2
      rw [if_neg (by omega)]
      exact decide_eq_false (by omega)
theorem ltIS_eq {p q : Int × Str} (h1 : ltIS q p = false) (h2 : ltIS p q = false) : p = q := by
  unfold ltIS at *
  by_cases e : q.1 = p.1
  · rw [if_pos e] at h1
    rw [if_pos e.symm] at h2
    have a := of_decide_eq_false h1
    have b := of_decide_eq_false h2
    rw [List.not_lt] at *
    exact Prod.ext e.symm (strL_inj (List.le_antisymm a b))
  · rw [if_neg e] at h1
    rw [if_neg (fun z => e z.symm)] at h2
    have a := of_decide_eq_false h1
    have b := of_decide_eq_false h2
    omega
theorem insIS_perm (x : Int × Str) : ∀ ys : List (Int × Str), (insIS x ys).Perm (x :: ys)
  | [] => .refl _
  | y :: ys => by
    unfold insIS
    split
    · exact ((insIS_perm x ys).cons y).trans (.swap x y ys)
    · exact .refl _
theorem sortIS_perm : ∀ xs : List (Int × Str), (sortIS xs).Perm xs
  | [] => .refl _
  | x :: xs => (insIS_perm x (sortIS xs)).trans ((sortIS_perm xs).cons x)
theorem insIS_sorted (x : Int × Str) : ∀ {ys : List (Int × Str)}, ys.Pairwise (fun p q => ltIS q p = false) → (insIS x ys).Pairwise (fun p q => ltIS q p = false)
  | [], _ => by simp [insIS]
  | y :: ys, h => by
    unfold insIS
    split
    · rename_i hxy
      refine List.pairwise_cons.mpr ⟨fun z hz => ?_, insIS_sorted x (List.pairwise_cons.mp h).2⟩
      rcases List.mem_cons.mp ((insIS_perm x ys).mem_iff.mp hz) with rfl | hz
      · exact ltIS_asym hxy
      · exact (List.pairwise_cons.mp h).1 z hz
    · rename_i hxy
      refine List.pairwise_cons.mpr ⟨fun z hz => ?_, h⟩
      rcases List.mem_cons.mp hz with rfl | hz
      · simpa using hxy
      · exact ltIS_tr (by simpa using hxy) ((List.pairwise_cons.mp h).1 z hz)
theorem sortIS_sorted : ∀ xs : List (Int × Str), (sortIS xs).Pairwise (fun p q => ltIS q p = false)
  | [] => .nil
  | x :: xs => insIS_sorted x (sortIS_sorted xs)
theorem sortIS_uniq {xs ys : List (Int × Str)} (hp : ys.Perm xs) (hs : ys.Pairwise (fun p q => ltIS q p = false)) : ys = sortIS xs :=
  List.Perm.eq_of_pairwise (fun a b _ _ h1 h2 => ltIS_eq h1 h2) hs (sortIS_sorted xs) (hp.trans (sortIS_perm xs).symm)
end DD

set_option Elab.async false
set_option linter.all false
set_option maxRecDepth 100000
set_option maxHeartbeats 1000000
/-! tuples of the heap that are known to have no dict -/
namespace DDS
open PySem PySem.Spec PyProof.Rows L2 DD
/-- a tuple without a dict: a new one, or a written one -/
def SqN (K : PySem.W.Frag) (H : Hp) (a : Addr) (xs : List V) : Prop :=
  (∃ o : Obj, o.dict = none ∧ H a = some (.frz o (.tup xs))) ∨
    ∃ (o : Obj) (its : Array Value) (n : Nat), K.lookup a = some o ∧ o.cls = .type "tuple" ∧ o.dict = none ∧ o.data = .seq its n ∧ its.size ≤ sizeLine ∧ Vals xs its.toList
theorem SqN.t {K : PySem.W.Frag} {H : Hp} {a : Addr} {xs : List V} (h : SqN K H a xs) : SqT K H a xs := by
  rcases h with ⟨o, _, h⟩ | ⟨o, its, n, h1, h2, _, h3, h4, h5⟩
  · exact .inl (.inr ⟨o, h⟩)
  · exact .inr ⟨o, its, n, h1, h2, h3, h4, h5⟩
instance {K : PySem.W.Frag} {H : Hp} {a : Addr} {xs : List V} : Coe (SqN K H a xs) (SqT K H a xs) := ⟨SqN.t⟩
theorem SqN.new {K : PySem.W.Frag} {H : Hp} {a : Addr} {xs : List V} {o : Obj} (ho : o.dict = none) : SqN K (upd H a (.frz o (.tup xs))) a xs := .inl ⟨o, ho, upd_same⟩
/-- the wish of a new tuple -/
def NewT (H : Hp) (xs : List V) (Q : VK) : Prop := ∀ p (o : Obj), o.dict = none → H p = none → Q (.ref p) (upd H p (.frz o (.tup xs)))
section
variable {X : Cx} {pins : List (Addr × Obj)} {σ : L2.St} {H : Hp} {s : Shared}
theorem newT {xs : List V} {its : List Value} {Q : VK} (I : Inv X pins σ H s) (r : Vals xs its) (z : xs.length ≤ sizeLine) (q : NewT H xs Q) :
    EP X pins σ Q (.ref s.heap.objs.size) { s with heap := s.heap.push { cls := .type "tuple", data := .seq its.toArray } } :=
  ⟨.ref s.heap.objs.size, _, I.laid (t' := s.toks) (o := .frz { cls := .type "tuple", data := .seq its.toArray } (.tup xs)) (fun b ob q => Heap.get?_push_of_some _ q) (Nat.le_refl _)
    ⟨Heap.get?_push_size _ rfl, z, its, r, IsTup.new _ _⟩, rfl, q _ _ rfl (I.hok.fresh (Nat.le_refl _))⟩
/-- a written tuple -/
def tTupN (t : TA) : TE := fun σ H Q => t σ H fun xs H1 => xs.length ≤ sizeLine ∧ NewT H1 xs Q
theorem pe_tupN {es : List Expr} {t : TA} {pos : Pos} {x1} (h : PA X es t) : PE X (.Tuple es x1 pos) (tTupN t) :=
  ⟨fun pins s σ H Q I hq => wpAny_Tuple_spliced (thn (h.run pos pins s σ H _ I hq) fun us s1 ⟨xs, H1, I1, r, z, q⟩ => ⟨by rw [← r.length]; exact z, newT I1 r z q⟩)⟩
/-- t + u -/
theorem op_catN : OpR X (binaryOp .Add) (fun x y H Q => ∃ a b xs ys, x = .ref a ∧ y = .ref b ∧ SqT X.K H a xs ∧ SqT X.K H b ys ∧ xs.length + ys.length ≤ sizeLine ∧
    (xs = [] → Q (.ref b) H) ∧ (xs ≠ [] → ys = [] → Q (.ref a) H) ∧ (xs ≠ [] → ys ≠ [] → NewT H (xs ++ ys) Q)) := by
  intro pins s σ H x y v u Q I rx ry ⟨a, b, xs, ys, ex, ey, ha, hb, hz, q0, q1, q2⟩
  by_cases hx : xs = []
  · exact op_catA pins s σ H x y v u Q I rx ry ⟨a, b, xs, ys, ex, ey, ha, hb, hz, q0, q1, fun n => absurd hx n⟩
  by_cases hy : ys = []
  · exact op_catA pins s σ H x y v u Q I rx ry ⟨a, b, xs, ys, ex, ey, ha, hb, hz, q0, q1, fun _ n => absurd hy n⟩
  subst ex ey
  cases rx; cases ry
  obtain ⟨its, r1, p1, _⟩ := I.tuple ha
  obtain ⟨its2, r2, p2, _⟩ := I.tuple hb
  exact HT.cat_tup p1 p2 (fun z => hx (r1.nil_iff.mp z)) (fun z => absurd (r2.nil_iff.mp z) hy) (fun _ => newT I (r1.append r2) (by rw [List.length_append]; exact hz) (q2 hx hy)) (by rw [← r1.length, ← r2.length]; exact hz)
/-- t[lo:hi] -/
theorem sl_tupN : SlR X (fun x lo hi H Q => ∃ a xs, x = .ref a ∧ SqT X.K H a xs ∧
    (HT.sIx xs.length 0 lo = 0 ∧ HT.sIx xs.length xs.length hi = xs.length → Q (.ref a) H) ∧ (¬ (HT.sIx xs.length 0 lo = 0 ∧ HT.sIx xs.length xs.length hi = xs.length) → NewT H (cutV xs lo hi) Q)) := by
  intro pins s σ H x v vl vu lo hi sl Q I rx hs pl pu ⟨a, xs, ex, hx, q1, q2⟩
  by_cases hw : HT.sIx xs.length 0 lo = 0 ∧ HT.sIx xs.length xs.length hi = xs.length
  · exact sl_tupA pins s σ H x v vl vu lo hi sl Q I rx hs pl pu ⟨a, xs, ex, hx, q1, fun n => absurd hw n⟩
  subst ex
  cases rx
  obtain ⟨its, r, ht, hz⟩ := I.tuple hx
  have hlen : its.toArray.size = xs.length := by rw [List.size_toArray]; exact r.length.symm
  refine ⟨"tuple", _, PyProof.Rows.slot_tuple_getitem.lookup, ht.typeIs, HT.getItem_tuple_cut ht hs pl pu (by rw [hlen]; exact hw) ?_ (by rw [hlen]; exact hz)⟩
  rw [hlen]
  exact newT I ((r.drop (HT.sIx xs.length 0 lo)).take (HT.sIx xs.length xs.length hi - HT.sIx xs.length 0 lo)) (Nat.le_trans (cutV_length xs lo hi) hz) (q2 hw)
/-- tuple(l), l a list -/
theorem call_tupleN : CallR X (.type "tuple") (fun xs H Q => ∃ p ys, xs = [.ref p] ∧ SqL X.K H p ys ∧ NewT H ys Q) := by
  intro pins s σ H xs us Q I r ⟨p, ys, ex, hq, q⟩
  subst ex
  obtain ⟨u, rfl, rx⟩ := vals1 r
  cases rx
  obtain ⟨its, r', pl, hz⟩ := I.list hq
  have hlen := r'.length
  refine call_tuple_list pl.isList (fun h' kp => ?_) (by simp only [List.size_toArray] <;> omega)
  have I1 : Inv X pins σ H { s with heap := h' } := I.kept (t' := s.toks) kp
  exact newT I1 r' hz q
/-- t * k -/
theorem op_repN : OpR X (binaryOp .Mult) (fun x y H Q => ∃ l k xs, x = .ref l ∧ y = .int k ∧ SqT X.K H l xs ∧ xs ≠ [] ∧ 2 ≤ k ∧ k ≤ 1000 ∧ xs.length ≤ 1000 ∧ NewT H (List.replicate k.toNat xs).flatten Q) := by
  intro pins s σ H x y v u Q I rx ry ⟨l, k, xs, ex, ey, hT, hne, h1, h2, hz, q⟩
  subst ex ey
  cases rx
  obtain ⟨t, rfl⟩ := ry
  obtain ⟨its, r, ⟨⟨cls, dd, data, sl⟩, ho, hc, n, hd⟩, hs⟩ := I.tuple hT
  simp only at hc hd
  subst hc hd
  have hle : its.length = xs.length := r.length.symm
  have hi : its.toArray.isEmpty = false := by
    cases its with
    | nil => exact absurd (List.eq_nil_of_length_eq_zero hle.symm) hne
    | cons a b => rfl
  have hsz0 : its.toArray.size = xs.length := by rw [List.size_toArray, hle]
  have hm : ((its.toArray.size : Nat) : Int) * k ≤ 1000000 := by
    rw [hsz0]
    have a1 : ((xs.length : Nat) : Int) * k ≤ 1000 * k := Int.mul_le_mul_of_nonneg_right (by omega) (by omega)
    omega
  have fl : (List.replicate k.toNat xs).flatten.length ≤ sizeLine := by
    rw [PyProof.Rows.lm_len_rep_flat, sizeLine_eq]
    have a1 : k.toNat * xs.length ≤ 1000 * 1000 := Nat.mul_le_mul (by omega) hz
    omega
  have flen : (List.replicate k.toNat its).flatten.length ≤ sizeLine := by rw [← (r.rep k.toNat).length]; exact fl
  have c0 : (decide (k < -(2 ^ 63)) || decide (k ≥ 2 ^ 63)) = false := by
    rw [decide_eq_false (by omega), decide_eq_false (by omega)] <;> rfl
  have c1 : (its.toArray.isEmpty || k == 1) = false := by
    rw [hi, Bool.false_or]
    exact beq_eq_false_iff_ne.mpr (by omega)
  have c2 : (decide (k ≤ 0) || its.toArray.isEmpty) = false := by
    rw [hi, Bool.or_false]
    exact decide_eq_false (by omega)
  have c4 : Builtin.Tuple.tupleTooMany (((its.toArray.size : Nat) : Int) * k) = false := by
    unfold Builtin.Tuple.tupleTooMany
    rw [sizeLine_eq]
    exact decide_eq_false (by omega)
  refine wpAny_binaryOp_repeat_ref (T := "tuple") (U := "int") (by decide) ⟨_, ho, rfl⟩ (fun s' => typeIs_int s' k t) noFill_tuple_mul F.fills_int_mul F.slot_int_rmul repeat_tuple F.slot_int_index.lookup
    (call_meets F.slot_int_rmul (typeIs_int s k t) F.entry_int_rmul (F.args_int_rmul_2 _ _) (int_rmul_tuple k t l its.toArray n dd sl)
      ⟨ho, rfl, ⟨_, ho, rfl⟩, call_meets F.slot_tuple_mul ⟨_, ho, rfl⟩ F.entry_tuple_mul (F.args_tuple_mul_2 _ _) (tuple_mulW l its.toArray n dd sl k t c0 c1 c2 (by omega) c4 (by rw [size_rep, List.size_toArray]; exact flen)) ⟨ho, ?_⟩⟩)
  rw [size_rep]
  exact newT I (r.rep k.toNat) fl q
/-- t.index(i), t of ints, i in it -/
theorem mt_indexN : MtR X "tuple.index" (fun x xs H Q => ∃ p, ∃ ys : List Int, ∃ z j, x = .ref p ∧ xs = [.int z] ∧ SqT X.K H p (ys.map V.int) ∧ ys[j]? = some z ∧ (∀ m, m < j → ys[m]? ≠ some z) ∧ Q (.int (j : Nat)) H) := by
  intro pins s σ H x xs v us Q I rx rs ⟨p, ys, z, j, ex, es, hq, hy, hno, q⟩
  subst ex es
  cases rx
  obtain ⟨u, rfl, t, rfl⟩ := vals1 rs
  obtain ⟨its, r, ⟨⟨cls, dd, dt, sl⟩, ho, hc, n, hd⟩, hz⟩ := I.tuple hq
  simp only at hc hd
  subst hc hd
  have hl : its.toArray.size = ys.length := by rw [List.size_toArray, ← r.length, List.length_map]
  have hj : j < its.toArray.size := by rw [hl]; exact (List.getElem?_eq_some_iff.mp hy).1
  have at' : ∀ (m : Nat) (hm : m < its.toArray.size), ∃ y t', ys[m]? = some y ∧ its.toArray[m] = Value.int y t' := fun m hm => by
    have hm' : m < ys.length := by rw [← hl]; exact hm
    obtain ⟨w, hw, t', hw'⟩ := r.get (i := m) (x := .int ys[m]) (by simp [hm'])
    refine ⟨ys[m], t', List.getElem?_eq_getElem hm', ?_⟩
    have e := (List.getElem?_eq_some_iff.mp hw).2
    rw [← hw', ← e]
    simp
  have flat_ints : (ys.map V.int).all flatV = true := by
    rw [List.all_map]
    exact List.all_eq_true.mpr fun _ _ => rfl
  refine call_meets PySem.F.slot_tuple_index ⟨_, ho, rfl⟩ PySem.F.entry_tuple_index (PySem.F.args_tuple_index_2 _ _) (TI.tuple_indexAt p its.toArray n dd sl (.int z t) (eqU (.int z)) j hj ?_ ?_)
    ⟨ho, fun w hw => mem_eqAt (x := .int z) ⟨t, rfl⟩ rfl r flat_ints w (by simpa using hw), ⟨.int (j : Nat), H, I.tok _, ⟨_, rfl⟩, q⟩⟩
  · obtain ⟨y, t', h1, h2⟩ := at' j hj
    rw [hy] at h1
    cases h1
    rw [h2]
    show (z == z) = true
    exact beq_self_eq_true z
  · intro m hm hmj
    obtain ⟨y, t', h1, h2⟩ := at' m hm
    rw [h2]
    show (y == z) = false
    exact beq_eq_false_iff_ne.mpr fun e => hno m hmj (e ▸ h1)
/-- the call of a method of a tuple without a dict -/
theorem SqN.is {a : Addr} {xs : List V} (h : SqN X.K H a xs) (I : Inv X pins σ H s) : ∃ ob, s.heap.get? a = some ob ∧ ob.cls = .type "tuple" ∧ ob.dict = none := by
  rcases h with ⟨o, hd, h⟩ | ⟨o, its, n, h1, h2, h3, _⟩
  · obtain ⟨e, _, _, _, o', e', c, _⟩ := I.hok a _ h
    rw [e] at e'; cases e'
    exact ⟨o, e, c, hd⟩
  · exact ⟨o, I.kIn a o h1, h2, h3⟩
theorem pe_bmN {o e : Expr} {es : List Expr} {to : TE} {t : TA} {name : Str} {apos cpos : Pos} {id : String} {r : V → List V → Hp → VK → Prop}
    (pa : PlainAttrs "tuple") (slot : Slot "tuple" name id) (hty : typeOf (.builtin id) = pure (.type "method_descriptor")) (hm : MtR X id r) (ho : PE X o to) (ha : PA X (e :: es) t)
    (hbase : attributeBase o name X.env (eval o X.env) = eval o X.env := by rfl)
    (hfew : ((backTo cpos (starEach (e :: es) X.env)).all (fun x => !x.1) && (backToKw cpos (keywordEach [] X.env)).all (fun x => x.1.isSome)
      && decide ((e :: es).length + ([] : List Keyword).length + (if ([] : List Keyword).isEmpty then 0 else 1) < 30)) = true := by rfl)
    (hline : (apos.endLine == cpos.line) = true := by rfl) (hs : starEach (e :: es) X.env = (false, eval e X.env) :: starEach es X.env := by rfl) (hplain : (backTo cpos (starEach es X.env)).any (·.1) = false := by rfl) :
    PE X (.Call (.Attribute o name apos) (e :: es) [] cpos) (fun σ H Q => to σ H fun x H1 => ∃ a xs, x = .ref a ∧ SqN X.K H1 a xs ∧ t σ H1 fun ys H2 => r x ys H2 Q) := by
  refine ⟨fun pins s σ H Q I h => ?_⟩
  refine wpAny_Call_method_late hbase hfew hline rfl (thn (ho.run pins s σ H _ I h) fun v s1 ⟨x, H1, I1, r1, a, xs, ex, ty, q1⟩ => ?_)
  obtain ⟨ob, e1, e2, e3⟩ := ty.is I1
  subst ex
  cases r1
  refine ⟨"tuple", id, pa, slot, hty, ⟨ob, e1, e2⟩, fun b eb => by cases eb; exact ⟨ob, e1, e3⟩, ?_⟩
  have hA := ha.run cpos pins s1 σ H1 _ I1 q1
  rw [hs] at hA ⊢
  refine Calls.callWith_builtin (by show (false || (backTo cpos (starEach es X.env)).any (·.1)) = false; rw [hplain] <;> rfl) (Calls.evalArgs_plain ?_)
  exact thn hA fun us s2 ⟨vs, H2, I2, r2, q2⟩ => hm pins s2 σ H2 (.ref a) vs (.ref a) us Q I2 rfl r2 q2
end
end DDS

set_option Elab.async false
set_option linter.all false
set_option maxRecDepth 100000
set_option maxHeartbeats 1000000
namespace DDS
open PySem PySem.Spec PyProof.Rows L2 DD

abbrev Sl := L2.St
/-- F: the lists that nobody changes any more; ks: where the cells lie -/
structure Gh where
  F : Addr → Prop
  ks : List Addr

def kD : L2.Key → D
  | .inl i => .int i
  | .inr x => .str x

/-- a list of the written part -/
def KSq (K : PySem.W.Frag) (a : Addr) (xs : List V) : Prop := ∃ (o : Obj) (its : Array Value) (n : Nat), K.lookup a = some o ∧ o.cls = .type "list" ∧ o.dict = none ∧ o.data = .seq its n ∧ its.size ≤ sizeLine ∧ Vals xs its.toList
mutual
def RV (K : PySem.W.Frag) (g : Gh) (H : Hp) : D → V → Prop
  | .non, v => v = .non
  | .bool b, v => v = .bl b
  | .int i, v => v = .int i
  | .str s, v => v = .str s
  | .tup ds, v => ∃ a vs, v = .ref a ∧ SqN K H a vs ∧ RVs K g H ds vs
  | .lst ds, v => ∃ a vs, v = .ref a ∧ g.F a ∧ H a = some (.lst vs) ∧ RVs K g H ds vs
  | .dic ks us, v => ∃ a kvs, v = .ref a ∧ g.F a ∧ H a = some (.dK kvs) ∧ ks = kvs.map (fun p => kD p.1) ∧ RVs K g H us (kvs.map (·.2))
  | .ldic ks us, v => ∃ a kvs, v = .ref a ∧ g.F a ∧ (∃ o, H a = some (.frz o (.dK kvs))) ∧ ks = kvs.map (fun p => kD p.1) ∧ RVs K g H us (kvs.map (·.2))
  | .ref k, v => ∃ a, g.ks[k]? = some a ∧ v = .ref a
  | .scr ds, v => ∃ a vs, v = .ref a ∧ ((g.F a ∧ ∃ o, H a = some (.frz o (.lst vs))) ∨ KSq K a vs) ∧ RVs K g H ds vs
def RVs (K : PySem.W.Frag) (g : Gh) (H : Hp) : List D → List V → Prop
  | [], vs => vs = []
  | d :: ds, vs => ∃ v ws, vs = v :: ws ∧ RV K g H d v ∧ RVs K g H ds ws
end

mutual
def RW (K : PySem.W.Frag) (g : Gh) (H : Hp) : W → V → List Addr → Prop
  | .no, _, _ => False
  | .fz d, v, os => RV K g H d v ∧ os = []
  | .own ds, v, os => ∃ a vs, v = .ref a ∧ H a = some (.lst vs) ∧ RVs K g H ds vs ∧ os = [a]
  | .ownD ks us, v, os => ∃ a kvs, v = .ref a ∧ H a = some (.dK kvs) ∧ ks = kvs.map (fun p => kD p.1) ∧ RVs K g H us (kvs.map (·.2)) ∧ os = [a]
  | .lw ws, v, os => ∃ a vs os', v = .ref a ∧ H a = some (.lst vs) ∧ RWs K g H ws vs os' ∧ os = a :: os'
  | .tw ws, v, os => ∃ a vs, v = .ref a ∧ (∃ o : Obj, o.dict = none ∧ H a = some (.frz o (.tup vs))) ∧ RWs K g H ws vs os
def RWs (K : PySem.W.Frag) (g : Gh) (H : Hp) : List W → List V → List Addr → Prop
  | [], vs, os => vs = [] ∧ os = []
  | w :: ws, vs, os => ∃ v vs' o1 o2, vs = v :: vs' ∧ RW K g H w v o1 ∧ RWs K g H ws vs' o2 ∧ os = o1 ++ o2
end

/-- the slots: env and σ, ow: what each slot owns -/
structure EnvR (K : PySem.W.Frag) (g : Gh) (H0 H : Hp) (env : Ev) (σ : Sl) (ow : Nat → List Addr) : Prop where
  len : env.length = σ.length
  sl : ∀ i w, env[i]? = some w → (w = .no ∧ ow i = []) ∨ ∃ v, σ[i]? = some (some v) ∧ RW K g H w v (ow i)
  nd : ∀ i, (ow i).Nodup
  dj : ∀ i j a, a ∈ ow i → a ∈ ow j → i = j
  own : ∀ i a, a ∈ ow i → ¬ g.F a ∧ a ∉ g.ks ∧ H0 a = none
  out : ∀ i, env.length ≤ i → ow i = []

def RC (K : PySem.W.Frag) (g : Gh) (H : Hp) : Cell → Addr → Prop
  | .lst ds, a => ∃ vs, H a = some (.lst vs) ∧ RVs K g H ds vs ∧ nolists ds = true
structure Wf (K : PySem.W.Frag) (g : Gh) (H : Hp) (st : Store) : Prop where
  len : g.ks.length = st.length
  nd : g.ks.Nodup
  cell : ∀ (k : Nat) c a, st[k]? = some c → g.ks[k]? = some a → RC K g H c a
  nF : ∀ a ∈ g.ks, ¬ g.F a
  lv : ∀ a, g.F a → ∃ o, H a = some o

def isTupO : HO → Prop
  | .tup _ => True
  | .frz _ (.tup _) => True
  | _ => False
/-- behind a statement -/
structure Stp (g : Gh) (H : Hp) (g' : Gh) (H' : Hp) : Prop where
  F : ∀ a, g.F a → g'.F a
  ks : g.ks <+: g'.ks
  fz : ∀ a o, g.F a → H a = some o → H' a = some o
  tp : ∀ a o, H a = some o → isTupO o → H' a = some o
  lv : ∀ a o, H a = some o → ∃ o', H' a = some o'
/-- behind an expression, a call: all that is no cell stays -/
structure Step (g : Gh) (H : Hp) (g' : Gh) (H' : Hp) : Prop where
  F : ∀ a, g.F a → g'.F a
  ks : g.ks <+: g'.ks
  kp : ∀ a o, H a = some o → a ∉ g.ks → H' a = some o
  lv : ∀ a o, H a = some o → ∃ o', H' a = some o'
  nF : ∀ a, g'.F a → g.F a ∨ H a = none
  nk : ∀ a, a ∈ g'.ks → a ∈ g.ks ∨ H a = none

theorem some_or_none {α : Type} (o : Option α) : (∃ a, o = some a) ∨ o = none := by cases o <;> simp
theorem Step.refl (g : Gh) (H : Hp) : Step g H g H := ⟨fun _ h => h, List.prefix_rfl, fun _ _ h _ => h, fun _ o h => ⟨o, h⟩, fun _ h => .inl h, fun _ h => .inl h⟩
theorem Stp.refl (g : Gh) (H : Hp) : Stp g H g H := ⟨fun _ h => h, List.prefix_rfl, fun _ _ _ h => h, fun _ _ h _ => h, fun _ o h => ⟨o, h⟩⟩
theorem Step.live {g g' : Gh} {H H' : Hp} (a : Step g H g' H') {b : Addr} (h : H' b = none) : H b = none := by
  rcases some_or_none (H b) with ⟨o, e⟩ | e
  · obtain ⟨o', e'⟩ := a.lv b o e; rw [h] at e'; cases e'
  · exact e
theorem Step.trans {g g1 g2 : Gh} {H H1 H2 : Hp} (a : Step g H g1 H1) (b : Step g1 H1 g2 H2) : Step g H g2 H2 where
  F := fun x h => b.F x (a.F x h)
  ks := a.ks.trans b.ks
  kp := fun x o h hx => b.kp x o (a.kp x o h hx) fun z => by
    rcases a.nk x z with q | q
    · exact hx q
    · rw [h] at q; cases q
  lv := fun x o h => by
    obtain ⟨o1, h1⟩ := a.lv x o h
    exact b.lv x o1 h1
  nF := fun x h => by
    rcases b.nF x h with q | q
    · exact a.nF x q
    · exact .inr (a.live q)
  nk := fun x h => by
    rcases b.nk x h with q | q
    · exact a.nk x q
    · exact .inr (a.live q)
theorem Stp.trans {g g1 g2 : Gh} {H H1 H2 : Hp} (a : Stp g H g1 H1) (b : Stp g1 H1 g2 H2) : Stp g H g2 H2 where
  F := fun x h => b.F x (a.F x h)
  ks := a.ks.trans b.ks
  fz := fun x o hF h => b.fz x o (a.F x hF) (a.fz x o hF h)
  tp := fun x o h t => b.tp x o (a.tp x o h t) t
  lv := fun x o h => by
    obtain ⟨o1, h1⟩ := a.lv x o h
    exact b.lv x o1 h1

section
variable {K : PySem.W.Frag} {g g' : Gh} {H H' : Hp} {st : Store}
theorem Wf.at (w : Wf K g H st) {a : Addr} (h : a ∈ g.ks) : ∃ vs, H a = some (.lst vs) := by
  obtain ⟨k, hk, e⟩ := List.mem_iff_getElem.mp h
  have e1 : g.ks[k]? = some a := by rw [List.getElem?_eq_getElem hk, e]
  have hk2 : k < st.length := by rw [← w.len]; exact hk
  obtain ⟨vs, e2, _⟩ : RC K g H st[k] a := w.cell k _ a (List.getElem?_eq_getElem hk2) e1
  exact ⟨vs, e2⟩
theorem Step.stp (s : Step g H g' H') (w : Wf K g H st) : Stp g H g' H' where
  F := s.F
  ks := s.ks
  fz := fun a o hF h => s.kp a o h fun z => w.nF a z hF
  tp := fun a o h t => s.kp a o h fun z => by
    obtain ⟨vs, e⟩ := w.at z
    rw [h] at e; cases e; exact t
  lv := s.lv
theorem Stp.sqt (s : Stp g H g' H') {a : Addr} {xs : List V} (h : SqT K H a xs) : SqT K H' a xs := by
  rcases h with (h | ⟨o, h⟩) | h
  · exact .inl (.inl (s.tp a _ h trivial))
  · exact .inl (.inr ⟨o, s.tp a _ h trivial⟩)
  · exact .inr h
theorem Stp.sqn (s : Stp g H g' H') {a : Addr} {xs : List V} (h : SqN K H a xs) : SqN K H' a xs := by
  rcases h with ⟨o, d, h⟩ | h
  · exact .inl ⟨o, d, s.tp a _ h trivial⟩
  · exact .inr h
theorem scr_sq {a : Addr} {vs : List V} (h : (g.F a ∧ ∃ o, H a = some (.frz o (.lst vs))) ∨ KSq K a vs) : SqL K H a vs := by
  rcases h with ⟨_, o, h⟩ | h
  · exact .inl (.inr ⟨o, h⟩)
  · exact .inr h
theorem prefix_get {α : Type} {l l' : List α} (h : l <+: l') {k : Nat} {a : α} (e : l[k]? = some a) : l'[k]? = some a := by
  obtain ⟨t, rfl⟩ := h
  have hk : k < l.length := (List.getElem?_eq_some_iff.mp e).1
  rw [List.getElem?_append_left hk]; exact e
mutual
theorem RV.stp (s : Stp g H g' H') : ∀ {d : D} {v : V}, RV K g H d v → RV K g' H' d v
  | .non, _, h => h
  | .bool _, _, h => h
  | .int _, _, h => h
  | .str _, _, h => h
  | .tup ds, v, h => by
    obtain ⟨a, vs, e, h1, h2⟩ := h
    exact ⟨a, vs, e, s.sqn h1, RVs.stp s h2⟩
  | .lst ds, v, h => by
    obtain ⟨a, vs, e, hF, h1, h2⟩ := h
    exact ⟨a, vs, e, s.F a hF, s.fz a _ hF h1, RVs.stp s h2⟩
  | .dic ks vs, v, h => by
    obtain ⟨a, kvs, e, hF, h1, h2, h3⟩ := h
    exact ⟨a, kvs, e, s.F a hF, s.fz a _ hF h1, h2, RVs.stp s h3⟩
  | .ldic ks vs, v, h => by
    obtain ⟨a, kvs, e, hF, ⟨o, h1⟩, h2, h3⟩ := h
    exact ⟨a, kvs, e, s.F a hF, ⟨o, s.fz a _ hF h1⟩, h2, RVs.stp s h3⟩
  | .ref k, v, h => by
    obtain ⟨a, e, h1⟩ := h
    exact ⟨a, prefix_get s.ks e, h1⟩
  | .scr ds, v, h => by
    obtain ⟨a, vs, e, h1, h2⟩ := h
    refine ⟨a, vs, e, ?_, RVs.stp s h2⟩
    rcases h1 with ⟨hF, o, h1⟩ | h1
    · exact .inl ⟨s.F a hF, o, s.fz a _ hF h1⟩
    · exact .inr h1
theorem RVs.stp (s : Stp g H g' H') : ∀ {ds : List D} {vs : List V}, RVs K g H ds vs → RVs K g' H' ds vs
  | [], _, h => h
  | d :: ds, vs, h => by
    obtain ⟨v, ws, e, h1, h2⟩ := h
    exact ⟨v, ws, e, RV.stp s h1, RVs.stp s h2⟩
end
/-! what holds no list hangs on no frozen thing -/
mutual
theorem RV.nolist {F' : Addr → Prop} : ∀ {d : D} {v : V}, nolist d = true → RV K g H d v → RV K ⟨F', g.ks⟩ H d v
  | .non, _, _, h => h
  | .bool _, _, _, h => h
  | .int _, _, _, h => h
  | .str _, _, _, h => h
  | .tup ds, v, n, h => by
    obtain ⟨a, vs, e, h1, h2⟩ := h
    exact ⟨a, vs, e, h1, RVs.nolist (by simpa [DD.nolist] using n) h2⟩
  | .lst ds, v, n, h => by simp [DD.nolist] at n
  | .dic ks vs, v, n, h => by simp [DD.nolist] at n
  | .ldic ks vs, v, n, h => by simp [DD.nolist] at n
  | .ref k, v, n, h => by simp [DD.nolist] at n
  | .scr ds, v, n, h => by simp [DD.nolist] at n
theorem RVs.nolist {F' : Addr → Prop} : ∀ {ds : List D} {vs : List V}, nolists ds = true → RVs K g H ds vs → RVs K ⟨F', g.ks⟩ H ds vs
  | [], _, _, h => h
  | d :: ds, vs, n, h => by
    obtain ⟨v, ws, e, h1, h2⟩ := h
    rw [nolists, Bool.and_eq_true] at n
    exact ⟨v, ws, e, RV.nolist n.1 h1, RVs.nolist n.2 h2⟩
end
mutual
theorem RW.stp (s : Stp g H g' H') : ∀ {x : W} {v : V} {os : List Addr}, (∀ a ∈ os, ∀ o, H a = some o → H' a = some o) → RW K g H x v os → RW K g' H' x v os
  | .no, _, _, _, h => h.elim
  | .fz d, _, _, _, h => ⟨RV.stp s h.1, h.2⟩
  | .own ds, v, os, hn, h => by
    obtain ⟨a, vs, e, h1, h2, rfl⟩ := h
    exact ⟨a, vs, e, hn a (by simp) _ h1, RVs.stp s h2, rfl⟩
  | .ownD ks vs, v, os, hn, h => by
    obtain ⟨a, kvs, e, h1, h2, h3, rfl⟩ := h
    exact ⟨a, kvs, e, hn a (by simp) _ h1, h2, RVs.stp s h3, rfl⟩
  | .lw ws, v, os, hn, h => by
    obtain ⟨a, vs, os', e, h1, h2, rfl⟩ := h
    exact ⟨a, vs, os', e, hn a (by simp) _ h1, RWs.stp s (fun b hb => hn b (by simp [hb])) h2, rfl⟩
  | .tw ws, v, os, hn, h => by
    obtain ⟨a, vs, e, ⟨o, d, h1⟩, h2⟩ := h
    exact ⟨a, vs, e, ⟨o, d, s.tp a _ h1 trivial⟩, RWs.stp s hn h2⟩
theorem RWs.stp (s : Stp g H g' H') : ∀ {ws : List W} {vs : List V} {os : List Addr}, (∀ a ∈ os, ∀ o, H a = some o → H' a = some o) → RWs K g H ws vs os → RWs K g' H' ws vs os
  | [], _, _, _, h => h
  | x :: ws, vs, os, hn, h => by
    obtain ⟨v, vs', o1, o2, e, h1, h2, rfl⟩ := h
    exact ⟨v, vs', o1, o2, e, RW.stp s (fun a ha => hn a (by simp [ha])) h1, RWs.stp s (fun a ha => hn a (by simp [ha])) h2, rfl⟩
end
mutual
/-- what is owned is live -/
theorem RW.live : ∀ {x : W} {v : V} {os : List Addr} {a : Addr}, RW K g H x v os → a ∈ os → ∃ o, H a = some o
  | .no, _, _, _, h, _ => h.elim
  | .fz d, _, _, _, h, ha => by rw [h.2] at ha; cases ha
  | .own ds, _, _, _, h, ha => by
    obtain ⟨b, vs, e, h1, h2, rfl⟩ := h
    rw [List.mem_singleton] at ha; subst ha; exact ⟨_, h1⟩
  | .ownD ks vs, _, _, _, h, ha => by
    obtain ⟨b, kvs, e, h1, h2, h3, rfl⟩ := h
    rw [List.mem_singleton] at ha; subst ha; exact ⟨_, h1⟩
  | .lw ws, _, _, _, h, ha => by
    obtain ⟨b, vs, os', e, h1, h2, rfl⟩ := h
    rcases List.mem_cons.mp ha with rfl | ha
    · exact ⟨_, h1⟩
    · exact RWs.live h2 ha
  | .tw ws, _, _, _, h, ha => by
    obtain ⟨b, vs, e, h1, h2⟩ := h
    exact RWs.live h2 ha
theorem RWs.live : ∀ {ws : List W} {vs : List V} {os : List Addr} {a : Addr}, RWs K g H ws vs os → a ∈ os → ∃ o, H a = some o
  | [], _, _, _, h, ha => by rw [h.2] at ha; cases ha
  | x :: ws, _, _, _, h, ha => by
    obtain ⟨v, vs', o1, o2, e, h1, h2, rfl⟩ := h
    rcases List.mem_append.mp ha with ha | ha
    · exact RW.live h1 ha
    · exact RWs.live h2 ha
end
theorem EnvR.step {H0 : Hp} {env : Ev} {σ : Sl} {ow : Nat → List Addr} (r : EnvR K g H0 H env σ ow) (w : Wf K g H st) (s : Step g H g' H') : EnvR K g' H0 H' env σ ow where
  len := r.len
  sl := fun i x e => by
    rcases r.sl i x e with h | ⟨v, e1, h⟩
    · exact .inl h
    · exact .inr ⟨v, e1, h.stp (s.stp w) fun a ha o e2 => s.kp a o e2 (r.own i a ha).2.1⟩
  nd := r.nd
  dj := r.dj
  own := fun i a ha => by
    obtain ⟨h1, h2, h3⟩ := r.own i a ha
    have hl : ∃ o, H a = some o := by
      rcases Nat.lt_or_ge i env.length with hi | hi
      · rcases r.sl i _ (List.getElem?_eq_getElem hi) with h | ⟨v, e1, h⟩
        · rw [h.2] at ha; cases ha
        · exact h.live ha
      · rw [r.out i hi] at ha; cases ha
    obtain ⟨o, e⟩ := hl
    refine ⟨fun z => ?_, fun z => ?_, h3⟩
    · rcases s.nF a z with q | q
      · exact h1 q
      · rw [e] at q; cases q
    · rcases s.nk a z with q | q
      · exact h2 q
      · rw [e] at q; cases q
  out := r.out
theorem EnvR.live {H0 : Hp} {env : Ev} {σ : Sl} {ow : Nat → List Addr} (r : EnvR K g H0 H env σ ow) {i : Nat} {a : Addr} (ha : a ∈ ow i) : ∃ o, H a = some o := by
  rcases Nat.lt_or_ge i env.length with hi | hi
  · rcases r.sl i _ (List.getElem?_eq_getElem hi) with h | ⟨v, e1, h⟩
    · rw [h.2] at ha; cases ha
    · exact h.live ha
  · rw [r.out i hi] at ha; cases ha
end
theorem RVs.length {K : PySem.W.Frag} {g : Gh} {H : Hp} : ∀ {ds : List D} {vs : List V}, RVs K g H ds vs → ds.length = vs.length
  | [], _, h => by rw [show _ = _ from h]; rfl
  | d :: ds, _, h => by
    obtain ⟨v, ws, rfl, _, h2⟩ := h
    simp [h2.length]
theorem RVs.get {K : PySem.W.Frag} {g : Gh} {H : Hp} : ∀ {ds : List D} {vs : List V} {i : Nat} {d : D}, RVs K g H ds vs → ds[i]? = some d → ∃ v, vs[i]? = some v ∧ RV K g H d v
  | [], _, _, _, _, e => by simp at e
  | d :: ds, _, 0, _, h, e => by
    obtain ⟨v, ws, rfl, h1, _⟩ := h
    simp at e; subst e; exact ⟨v, rfl, h1⟩
  | d :: ds, _, i + 1, _, h, e => by
    obtain ⟨v, ws, rfl, _, h2⟩ := h
    obtain ⟨u, e1, e2⟩ := RVs.get (i := i) h2 (by simpa using e)
    exact ⟨u, by simpa using e1, e2⟩
theorem RVs.get' {K : PySem.W.Frag} {g : Gh} {H : Hp} : ∀ {ds : List D} {vs : List V} {i : Nat} {v : V}, RVs K g H ds vs → vs[i]? = some v → ∃ d, ds[i]? = some d ∧ RV K g H d v
  | [], _, _, _, h, e => by rw [show _ = _ from h] at e; simp at e
  | d :: ds, _, 0, _, h, e => by
    obtain ⟨v, ws, rfl, h1, _⟩ := h
    simp at e; subst e; exact ⟨d, rfl, h1⟩
  | d :: ds, _, i + 1, _, h, e => by
    obtain ⟨v, ws, rfl, _, h2⟩ := h
    obtain ⟨u, e1, e2⟩ := RVs.get' (i := i) h2 (by simpa using e)
    exact ⟨u, by simpa using e1, e2⟩
theorem RVs.append {K : PySem.W.Frag} {g : Gh} {H : Hp} : ∀ {ds es : List D} {vs ws : List V}, RVs K g H ds vs → RVs K g H es ws → RVs K g H (ds ++ es) (vs ++ ws)
  | [], _, _, _, h, h' => by rw [show _ = _ from h]; exact h'
  | d :: ds, _, _, _, h, h' => by
    obtain ⟨v, ws, rfl, h1, h2⟩ := h
    exact ⟨v, _, rfl, h1, RVs.append h2 h'⟩
theorem RVs.set {K : PySem.W.Frag} {g : Gh} {H : Hp} {d : D} {v : V} (r : RV K g H d v) : ∀ {ds : List D} {vs : List V} (i : Nat), RVs K g H ds vs → RVs K g H (ds.set i d) (vs.set i v)
  | [], _, _, h => by rw [show _ = _ from h]; rfl
  | d :: ds, _, 0, h => by
    obtain ⟨v, ws, rfl, h1, h2⟩ := h
    exact ⟨_, _, rfl, r, h2⟩
  | d :: ds, _, i + 1, h => by
    obtain ⟨v, ws, rfl, h1, h2⟩ := h
    exact ⟨_, _, rfl, h1, RVs.set r i h2⟩
/-- an operand: the list itself need not be frozen -/
def RB (K : PySem.W.Frag) (g : Gh) (H : Hp) : D → V → Prop
  | .lst ds, v => ∃ a vs, v = .ref a ∧ a ∉ g.ks ∧ H a = some (.lst vs) ∧ RVs K g H ds vs
  | .dic ks us, v => ∃ a kvs, v = .ref a ∧ a ∉ g.ks ∧ H a = some (.dK kvs) ∧ ks = kvs.map (fun p => kD p.1) ∧ RVs K g H us (kvs.map (·.2))
  | d, v => RV K g H d v
theorem RV.rb {K : PySem.W.Frag} {g : Gh} {H : Hp} {st : Store} (w : Wf K g H st) : ∀ {d : D} {v : V}, RV K g H d v → RB K g H d v
  | .lst ds, _, h => by obtain ⟨a, vs, e, hF, h1, h2⟩ := h; exact ⟨a, vs, e, fun z => w.nF a z hF, h1, h2⟩
  | .dic _ _, _, h => by obtain ⟨a, kvs, e, hF, h1, h2⟩ := h; exact ⟨a, kvs, e, fun z => w.nF a z hF, h1, h2⟩
  | .scr _, _, h => h
  | .ldic _ _, _, h => h
  | .non, _, h => h
  | .bool _, _, h => h
  | .int _, _, h => h
  | .str _, _, h => h
  | .tup _, _, h => h
  | .ref _, _, h => h
theorem RB.step {K : PySem.W.Frag} {g g' : Gh} {H H' : Hp} {st : Store} (w : Wf K g H st) (s : Step g H g' H') : ∀ {d : D} {v : V}, RB K g H d v → RB K g' H' d v
  | .lst ds, _, h => by
    obtain ⟨a, vs, e, hn, h1, h2⟩ := h
    refine ⟨a, vs, e, fun z => ?_, s.kp a _ h1 hn, h2.stp (s.stp w)⟩
    rcases s.nk a z with q | q
    · exact hn q
    · rw [h1] at q; cases q
  | .dic _ _, _, h => by
    obtain ⟨a, kvs, e, hn, h1, h2, h3⟩ := h
    refine ⟨a, kvs, e, fun z => ?_, s.kp a _ h1 hn, h2, h3.stp (s.stp w)⟩
    rcases s.nk a z with q | q
    · exact hn q
    · rw [h1] at q; cases q
  | .non, _, h => h
  | .bool _, _, h => h
  | .int _, _, h => h
  | .str _, _, h => h
  | .tup _, _, h => RV.stp (K := K) (d := .tup _) (s.stp w) h
  | .ref _, _, h => RV.stp (K := K) (d := .ref _) (s.stp w) h
  | .ldic _ _, _, h => RV.stp (K := K) (d := .ldic _ _) (s.stp w) h
  | .scr _, _, h => RV.stp (K := K) (d := .scr _) (s.stp w) h
end DDS

set_option Elab.async false
set_option linter.all false
set_option maxRecDepth 100000
set_option maxHeartbeats 2000000
namespace DDS
open PySem PySem.Spec PyProof.Rows L2 DD

/-- a value that an expression has made or handed on: a list (a dict) is new and nobody's -/
def RNew (K : PySem.W.Frag) (H0 : Hp) (g : Gh) (H : Hp) : D → V → Prop
  | .lst ds, v => ∃ a vs, v = .ref a ∧ H a = some (.lst vs) ∧ RVs K g H ds vs ∧ ¬ g.F a ∧ a ∉ g.ks ∧ H0 a = none
  | .dic ks us, v => ∃ a kvs, v = .ref a ∧ H a = some (.dK kvs) ∧ (ks = kvs.map (fun p => kD p.1) ∧ RVs K g H us (kvs.map (·.2))) ∧ ¬ g.F a ∧ a ∉ g.ks ∧ H0 a = none
  | d, v => RV K g H d v
/-- no list, no dict -/
def flat1 : D → Bool
  | .lst _ => false
  | .dic _ _ => false
  | _ => true
theorem RNew.of {K : PySem.W.Frag} {H0 : Hp} {g : Gh} {H : Hp} : ∀ {d : D} {v : V}, flat1 d = true → RV K g H d v → RNew K H0 g H d v
  | .lst _, _, h, _ => by cases h
  | .dic _ _, _, h, _ => by cases h
  | .non, _, _, h => h
  | .bool _, _, _, h => h
  | .int _, _, _, h => h
  | .str _, _, _, h => h
  | .tup _, _, _, h => h
  | .ref _, _, _, h => h
  | .ldic _ _, _, _, h => h
  | .scr _, _, _, h => h
def Gives (K : PySem.W.Frag) (g : Gh) (H : Hp) (st : Store) (o : Option D) (Q : VK) : Prop :=
  ∃ d, o = some d ∧ ∀ g' H' v, Step g H g' H' → Wf K g' H' st → RNew K H g' H' d v → Q v H'

section
variable {K : PySem.W.Frag} {g : Gh} {H : Hp} {st : Store} {p : Addr} {o : HO}
theorem Step.alloc (h : H p = none) : Step g H g (upd H p o) where
  F := fun _ x => x
  ks := List.prefix_rfl
  kp := fun a u e _ => by rw [upd_ne (ne_of_none e h)]; exact e
  lv := fun a u e => ⟨u, by rw [upd_ne (ne_of_none e h)]; exact e⟩
  nF := fun _ x => .inl x
  nk := fun _ x => .inl x
theorem Wf.newF (w : Wf K g H st) (h : H p = none) : ¬ g.F p := fun z => by obtain ⟨o, e⟩ := w.lv p z; rw [h] at e; cases e
theorem Wf.newk (w : Wf K g H st) (h : H p = none) : p ∉ g.ks := fun z => by obtain ⟨o, e⟩ := w.at z; rw [h] at e; cases e
theorem RC.stp {g' : Gh} {H' : Hp} (s : Stp g H g' H') {c : Cell} {a : Addr} (hs : ∀ u, H a = some u → H' a = some u) (h : RC K g H c a) : RC K g' H' c a := by
  cases c with
  | lst ds => obtain ⟨vs, h1, h2, h3⟩ := h; exact ⟨vs, hs _ h1, h2.stp s, h3⟩
theorem Stp.alloc (h : H p = none) : Stp g H g (upd H p o) where
  F := fun _ x => x
  ks := List.prefix_rfl
  fz := fun a u _ e => by rw [upd_ne (ne_of_none e h)]; exact e
  tp := fun a u e _ => by rw [upd_ne (ne_of_none e h)]; exact e
  lv := fun a u e => ⟨u, by rw [upd_ne (ne_of_none e h)]; exact e⟩
theorem Wf.alloc (w : Wf K g H st) (h : H p = none) : Wf K g (upd H p o) st where
  len := w.len
  nd := w.nd
  cell := fun k c a e1 e2 => (w.cell k c a e1 e2).stp (Stp.alloc h) fun u e => by rw [upd_ne (ne_of_none e h)]; exact e
  nF := w.nF
  lv := fun a x => by obtain ⟨u, e⟩ := w.lv a x; exact ⟨u, by rw [upd_ne (ne_of_none e h)]; exact e⟩
end
section
variable {K : PySem.W.Frag} {g : Gh} {H : Hp} {st : Store} {Q : VK}
theorem Gives.flat {d : D} {v : V} (h : Gives K g H st (some d) Q) (w : Wf K g H st) (f : flat1 d = true) (r : RV K g H d v) : Q v H := by
  obtain ⟨d', e, q⟩ := h
  cases e
  exact q g H v (Step.refl _ _) w (RNew.of f r)
theorem Gives.tup {ds : List D} {vs : List V} (h : Gives K g H st (some (.tup ds)) Q) (w : Wf K g H st) (r : RVs K g H ds vs) : NewT H vs Q := by
  intro p o ho hp
  obtain ⟨d', e, q⟩ := h
  cases e
  exact q g _ _ (Step.alloc hp) (w.alloc hp) ⟨p, vs, rfl, SqN.new ho, r.stp (Stp.alloc hp)⟩
theorem Gives.lst {ds : List D} {vs : List V} (h : Gives K g H st (some (.lst ds)) Q) (w : Wf K g H st) (r : RVs K g H ds vs) {p : Addr} (hp : H p = none) : Q (.ref p) (upd H p (.lst vs)) := by
  obtain ⟨d', e, q⟩ := h
  cases e
  exact q g _ _ (Step.alloc hp) (w.alloc hp) ⟨p, vs, rfl, upd_same, r.stp (Stp.alloc hp), w.newF hp, w.newk hp, hp⟩
end
theorem lim_le : lim ≤ sizeLine := by rw [sizeLine_eq]; decide

/-! ### the operators -/
def rBin (K : PySem.W.Frag) (o : Bop) : R2 := fun x y H Q => ∃ g st d1 d2, Wf K g H st ∧ RB K g H d1 x ∧ RB K g H d2 y ∧ Gives K g H st (binop o d1 d2) Q
theorem CMulB.ok {i j : Int} (h : mulOk i j = true) : IntMulOk i j := by
  have b : ∀ x : Int, Builtin.Int.intBits x ≤ x.natAbs.log2 + 1 := fun x => by
    unfold Builtin.Int.intBits
    split <;> omega
  have h1 := b i
  have h2 := b j
  have h3 : i.natAbs.log2 + j.natAbs.log2 < 100000000 := of_decide_eq_true h
  have e : bitsLine = 134217728 := by decide
  unfold IntMulOk
  intro z
  rw [Bool.and_eq_true] at z
  have z2 := z.2
  unfold Builtin.Int.intTooBig at z2
  have z3 := of_decide_eq_true z2
  rw [e] at z3
  omega
theorem RVs.rep {K : PySem.W.Frag} {g : Gh} {H : Hp} {ds : List D} {vs : List V} (h : RVs K g H ds vs) : ∀ k : Nat, RVs K g H (List.replicate k ds).flatten (List.replicate k vs).flatten
  | 0 => rfl
  | k + 1 => by simp only [List.replicate_succ, List.flatten_cons]; exact h.append (RVs.rep h k)
section
variable {X : Cx}
theorem Gives.no {K : PySem.W.Frag} {g : Gh} {H : Hp} {st : Store} {Q : VK} {P : Prop} (h : Gives K g H st none Q) : P := by
  obtain ⟨_, e, _⟩ := h
  cases e
theorem Gives.ite {K : PySem.W.Frag} {g : Gh} {H : Hp} {st : Store} {Q : VK} {c : Prop} [Decidable c] {o : Option D} (h : Gives K g H st (if c then o else none) Q) : c ∧ Gives K g H st o Q := by
  by_cases hc : c
  · rw [if_pos hc] at h; exact ⟨hc, h⟩
  · rw [if_neg hc] at h; exact h.no
theorem op_bin_add : OpR X (binaryOp .Add) (rBin X.K .add) := by
  intro pins s σ H x y v u Q I rx ry h
  obtain ⟨g, st, d1, d2, w, h1, h2, q⟩ := h
  cases d1 <;> cases d2 <;> first | exact Gives.no q | skip
  · cases h1; cases h2
    exact op_add pins s σ H _ _ v u Q I rx ry ⟨_, _, rfl, rfl, q.flat w rfl rfl⟩
  · obtain ⟨hz, q⟩ := Gives.ite q
    cases h1; cases h2
    exact op_add_str pins s σ H _ _ v u Q I rx ry ⟨_, _, rfl, rfl, Nat.le_trans hz lim_le, q.flat w rfl rfl⟩
  · rename_i xs ys
    obtain ⟨hz, hq⟩ := Gives.ite q
    obtain ⟨a, vs, rfl, ha, hv⟩ := h1
    obtain ⟨b, ws, rfl, hb, hw⟩ := h2
    have l1 := hv.length
    have l2 := hw.length
    refine op_catN pins s σ H _ _ v u Q I rx ry ⟨a, b, vs, ws, rfl, rfl, ha.t, hb.t, by have := lim_le; omega, fun e0 => ?_, fun _ e0 => ?_, fun _ _ => hq.tup w (hv.append hw)⟩
    · subst e0
      have : xs = [] := List.eq_nil_of_length_eq_zero l1
      subst this
      exact hq.flat w rfl ⟨b, ws, rfl, hb, hw⟩
    · subst e0
      have : ys = [] := List.eq_nil_of_length_eq_zero l2
      subst this
      rw [List.append_nil] at hq
      exact hq.flat w rfl ⟨a, vs, rfl, ha, hv⟩
  · rename_i xs ys
    obtain ⟨hz, hq⟩ := Gives.ite q
    obtain ⟨a, vs, rfl, _, ha, hv⟩ := h1
    obtain ⟨b, ws, rfl, _, hb, hw⟩ := h2
    have l1 := hv.length
    have l2 := hw.length
    exact op_cat pins s σ H _ _ v u Q I rx ry ⟨a, b, vs, ws, rfl, rfl, ha, hb, by have := lim_le; omega, fun p hp => hq.lst w (hv.append hw) hp⟩
theorem op_bin_sub : OpR X (binaryOp .Sub) (rBin X.K .sub) := by
  intro pins s σ H x y v u Q I rx ry h
  obtain ⟨g, st, d1, d2, w, h1, h2, q⟩ := h
  cases d1 <;> cases d2 <;> first | exact Gives.no q | skip
  cases h1; cases h2
  exact op_sub pins s σ H _ _ v u Q I rx ry ⟨_, _, rfl, rfl, q.flat w rfl rfl⟩
theorem op_bin_mod : OpR X (binaryOp .Mod) (rBin X.K .mod) := by
  intro pins s σ H x y v u Q I rx ry h
  obtain ⟨g, st, d1, d2, w, h1, h2, q⟩ := h
  cases d1 <;> cases d2 <;> first | exact Gives.no q | skip
  obtain ⟨hz, q⟩ := Gives.ite q
  cases h1; cases h2
  exact op_modN pins s σ H _ _ v u Q I rx ry ⟨_, _, rfl, rfl, hz, q.flat w rfl rfl⟩
theorem op_bin_fdiv : OpR X (binaryOp .FloorDiv) (rBin X.K .fdiv) := by
  intro pins s σ H x y v u Q I rx ry h
  obtain ⟨g, st, d1, d2, w, h1, h2, q⟩ := h
  cases d1 <;> cases d2 <;> first | exact Gives.no q | skip
  obtain ⟨hz, hq⟩ := Gives.ite q
  cases h1; cases h2
  unfold divOk at hz
  rw [Bool.and_eq_true] at hz
  obtain ⟨t, rfl⟩ := rx
  obtain ⟨t', rfl⟩ := ry
  exact floordiv_int (of_decide_eq_true hz.1) ⟨.int _, H, I.tok _, ⟨_, rfl⟩, hq.flat w rfl rfl⟩ (.inl (PyProof.noPylong_of_log2 (of_decide_eq_true hz.2)))
theorem op_bin_pow : OpR X (binaryOp .Pow) (rBin X.K .pow) := by
  intro pins s σ H x y v u Q I rx ry h
  obtain ⟨g, st, d1, d2, w, h1, h2, q⟩ := h
  cases d1 <;> cases d2 <;> first | exact Gives.no q | skip
  obtain ⟨hz, hq⟩ := Gives.ite q
  cases h1; cases h2
  unfold powOk at hz
  simp only [Bool.and_eq_true, decide_eq_true_eq] at hz
  exact op_pow pins s σ H _ _ v u Q I rx ry ⟨_, _, rfl, rfl, ⟨hz.1.1, by omega, by omega⟩, hq.flat w rfl rfl⟩
/-- t * 1 is t itself -/
theorem tuple_mul1 (l : Addr) (items : Array Value) (n : Nat) (dd : Option Addr) (sl : Array (Option Value)) (u : Tok) :
    Meets (Builtin.«tuple.__mul__» ⟨[.ref l, .int 1 u], []⟩) (fun _ R s => s.heap.get? l = some { cls := .type "tuple", dict := dd, data := .seq items n, slots := sl } ∧ R (.ok (.ret (Value.ref l))) s) :=
  .of_wp fun prog w A R s h => by
    obtain ⟨hp, g, d, tk, os⟩ := s
    obtain ⟨hl, h⟩ := h
    have f1 := AutoSeq1.idx_int
    wp_walk using AutoSeq1.wpAny_loadPart' hl
    exact ⟨_, rfl, h⟩
theorem op_rep1 : OpR X (binaryOp .Mult) (fun x y H Q => ∃ l xs, x = .ref l ∧ y = .int 1 ∧ SqT X.K H l xs ∧ Q (.ref l) H) := by
  intro pins s σ H x y v u Q I rx ry h
  obtain ⟨l, xs, rfl, rfl, hT, q⟩ := h
  cases rx
  obtain ⟨t, rfl⟩ := ry
  obtain ⟨its, r, ⟨⟨cls, dd, data, sl⟩, ho, hc, n, hd⟩, hs⟩ := I.tuple hT
  simp only at hc hd
  subst hc hd
  exact wpAny_binaryOp_repeat_ref (T := "tuple") (U := "int") (by decide) ⟨_, ho, rfl⟩ (fun s' => typeIs_int s' 1 t) noFill_tuple_mul F.fills_int_mul F.slot_int_rmul repeat_tuple F.slot_int_index.lookup
    (call_meets F.slot_int_rmul (typeIs_int s 1 t) F.entry_int_rmul (F.args_int_rmul_2 _ _) (int_rmul_tuple 1 t l its.toArray n dd sl)
      ⟨ho, rfl, ⟨_, ho, rfl⟩, call_meets F.slot_tuple_mul ⟨_, ho, rfl⟩ F.entry_tuple_mul (F.args_tuple_mul_2 _ _) (tuple_mul1 l its.toArray n dd sl t) ⟨ho, .ref l, H, I, rfl, q⟩⟩)
theorem op_bin_mul : OpR X (binaryOp .Mult) (rBin X.K .mul) := by
  intro pins s σ H x y v u Q I rx ry h
  obtain ⟨g, st, d1, d2, w, h1, h2, q⟩ := h
  cases d1 <;> cases d2 <;> first | exact Gives.no q | skip
  · obtain ⟨hz, hq⟩ := Gives.ite q
    cases h1; cases h2
    obtain ⟨t, rfl⟩ := rx
    obtain ⟨t', rfl⟩ := ry
    exact mul_int ⟨.int _, H, I.tok _, ⟨_, rfl⟩, hq.flat w rfl rfl⟩ (CMulB.ok hz)
  · rename_i xs k
    obtain ⟨hz, hq⟩ := Gives.ite q
    obtain ⟨a, vs, rfl, ha, hv⟩ := h1
    cases h2
    have l1 := hv.length
    by_cases hk : k = 1
    · subst hk
      refine op_rep1 pins s σ H _ _ v u Q I rx ry ⟨a, vs, rfl, rfl, ha.t, ?_⟩
      obtain ⟨d', e, q'⟩ := hq
      cases e
      refine q' g H _ (Step.refl _ _) w ⟨a, vs, rfl, ha, ?_⟩
      have e1 : rep xs 1 = xs := by unfold rep; simp
      rw [e1]; exact hv
    refine op_repN pins s σ H _ _ v u Q I rx ry ⟨a, k, vs, rfl, rfl, ha.t, ?_, by omega, hz.2.2.1, by omega, hq.tup w (hv.rep _)⟩
    intro e; subst e; exact hz.1 (List.eq_nil_of_length_eq_zero l1)
  · rename_i xs k
    obtain ⟨hz, hq⟩ := Gives.ite q
    obtain ⟨a, vs, rfl, _, ha, hv⟩ := h1
    cases h2
    have l1 := hv.length
    have l2 : lim < 2 ^ 63 := by decide
    exact op_rep pins s σ H _ _ v u Q I rx ry ⟨a, k, vs, rfl, rfl, ha, by omega, by omega, by have := lim_le; rw [← l1]; omega, fun p hp => hq.lst w (hv.rep _) hp⟩
end
end DDS

set_option Elab.async false
set_option linter.all false
set_option maxRecDepth 100000
set_option maxHeartbeats 2000000
namespace DDS
open PySem PySem.Spec PyProof.Rows L2 DD

/-! ### comparisons -/
mutual
def toP : D → PyData
  | .non => .none
  | .bool b => .bool b
  | .int i => .int i
  | .str s => .str s
  | .tup xs => .tuple (toPs xs)
  | .lst xs => .list (toPs xs)
  | _ => .none
def toPs : List D → List PyData
  | [] => []
  | x :: xs => toP x :: toPs xs
end
mutual
theorem RV.dp {K : PySem.W.Frag} {g : Gh} {H : Hp} : ∀ {d : D} {v : V} {n : Nat}, shal n d = true → RV K g H d v → Dp K H v (toP d)
  | .non, _, _, _, h => by cases h; exact .non
  | .bool b, _, _, _, h => by cases h; exact .bl b
  | .int b, _, _, _, h => by cases h; exact .int b
  | .str b, _, _, _, h => by cases h; exact .str b
  | .tup ds, _, 0, hs, _ => by simp [shal] at hs
  | .lst ds, _, 0, hs, _ => by simp [shal] at hs
  | .tup ds, _, n + 1, hs, h => by
    obtain ⟨a, vs, rfl, h1, h2⟩ := h
    exact .tup h1.t (RVs.dp (n := n) (by simpa [shal] using hs) h2)
  | .lst ds, _, n + 1, hs, h => by
    obtain ⟨a, vs, rfl, _, h1, h2⟩ := h
    exact .lst (.inl (.inl h1)) (RVs.dp (n := n) (by simpa [shal] using hs) h2)
  | .dic _ _, _, n, hs, _ => by cases n <;> simp [shal] at hs
  | .ldic _ _, _, n, hs, _ => by cases n <;> simp [shal] at hs
  | .ref _, _, n, hs, _ => by cases n <;> simp [shal] at hs
  | .scr _, _, n, hs, _ => by cases n <;> simp [shal] at hs
theorem RVs.dp {K : PySem.W.Frag} {g : Gh} {H : Hp} : ∀ {ds : List D} {vs : List V} {n : Nat}, (∀ x ∈ ds, shal n x = true) → RVs K g H ds vs → DpAll K H vs (toPs ds)
  | [], _, _, _, h => by rw [show _ = _ from h]; exact .nil
  | d :: ds, _, n, hs, h => by
    obtain ⟨v, ws, rfl, h1, h2⟩ := h
    exact .cons (RV.dp (hs d (by simp)) h1) (RVs.dp (fun x hx => hs x (by simp [hx])) h2)
end
theorem RB.dp {K : PySem.W.Frag} {g : Gh} {H : Hp} : ∀ {d : D} {v : V} {n : Nat}, shal n d = true → RB K g H d v → Dp K H v (toP d)
  | .lst ds, _, 0, hs, _ => by simp [shal] at hs
  | .lst ds, _, n + 1, hs, h => by
    obtain ⟨a, vs, rfl, _, h1, h2⟩ := h
    exact .lst (.inl (.inl h1)) (RVs.dp (n := n) (by simpa [shal] using hs) h2)
  | .non, _, _, hs, h => RV.dp (g := g) (d := .non) hs h
  | .bool b, _, _, hs, h => RV.dp (g := g) (d := .bool b) hs h
  | .int b, _, _, hs, h => RV.dp (g := g) (d := .int b) hs h
  | .str b, _, _, hs, h => RV.dp (g := g) (d := .str b) hs h
  | .tup ds, _, _, hs, h => RV.dp (g := g) (d := .tup ds) hs h
  | .dic _ _, _, n, hs, _ => by cases n <;> simp [shal] at hs
  | .ldic _ _, _, n, hs, _ => by cases n <;> simp [shal] at hs
  | .ref _, _, n, hs, _ => by cases n <;> simp [shal] at hs
  | .scr _, _, n, hs, _ => by cases n <;> simp [shal] at hs
mutual
theorem shal_lay : ∀ {d : D} {n : Nat}, shal n d = true → (toP d).canLay0 = true ∧ (toP d).depth ≤ n
  | .non, _, _ => ⟨rfl, Nat.zero_le _⟩
  | .bool b, _, _ => ⟨rfl, Nat.zero_le _⟩
  | .int b, _, _ => ⟨rfl, Nat.zero_le _⟩
  | .str b, n, h => ⟨by cases n <;> exact h, Nat.zero_le _⟩
  | .tup ds, 0, hs => by simp [shal] at hs
  | .lst ds, 0, hs => by simp [shal] at hs
  | .tup ds, n + 1, hs => by
    have h := shals_lay (n := n) (ds := ds) (by simpa [shal] using hs)
    exact ⟨h.1, Nat.succ_le_succ h.2⟩
  | .lst ds, n + 1, hs => by
    have h := shals_lay (n := n) (ds := ds) (by simpa [shal] using hs)
    exact ⟨h.1, Nat.succ_le_succ h.2⟩
  | .dic _ _, n, hs => by cases n <;> simp [shal] at hs
  | .ldic _ _, n, hs => by cases n <;> simp [shal] at hs
  | .ref _, n, hs => by cases n <;> simp [shal] at hs
  | .scr _, n, hs => by cases n <;> simp [shal] at hs
theorem shals_lay : ∀ {ds : List D} {n : Nat}, (∀ x ∈ ds, shal n x = true) → PyData.canLayAll0 (toPs ds) = true ∧ PyData.depthAll (toPs ds) ≤ n
  | [], _, _ => ⟨rfl, Nat.zero_le _⟩
  | d :: ds, n, hs => by
    have h1 := shal_lay (hs d (by simp))
    have h2 := shals_lay (ds := ds) fun x hx => hs x (by simp [hx])
    refine ⟨by simp [toPs, PyData.canLayAll0, h1.1, h2.1], ?_⟩
    simp only [toPs, PyData.depthAll]
    omega
end
theorem shal_shaped {d : D} {n : Nat} (h : shal n d = true) (hn : n ≤ 60) : SeqAt.shaped (toP d) = true := by
  obtain ⟨a, b⟩ := shal_lay h
  unfold SeqAt.shaped
  rw [a, Bool.true_and]
  exact decide_eq_true (by omega)
mutual
theorem eqD_eqv : ∀ {d e : D} {n m : Nat}, shal n d = true → shal m e = true → eqD d e = PyData.eqv (toP d) (toP e)
  | .non, e, n, m, _, he => by cases e <;> cases m <;> simp [shal] at he <;> simp [eqD, toP, PyData.eqv]
  | .bool b, e, n, m, _, he => by cases e <;> cases m <;> simp [shal] at he <;> simp [eqD, toP, PyData.eqv]
  | .int b, e, n, m, _, he => by cases e <;> cases m <;> simp [shal] at he <;> simp [eqD, toP, PyData.eqv]
  | .str b, e, n, m, _, he => by cases e <;> cases m <;> simp [shal] at he <;> simp [eqD, toP, PyData.eqv]
  | .tup ds, e, 0, m, hs, _ => by simp [shal] at hs
  | .lst ds, e, 0, m, hs, _ => by simp [shal] at hs
  | .tup ds, e, n + 1, m, hs, he => by
    cases e with
    | tup es =>
      cases m with
      | zero => simp [shal] at he
      | succ m =>
        simp only [eqD, toP, PyData.eqv]
        exact eqDs_eqv (n := n) (m := m) (by simpa [shal] using hs) (by simpa [shal] using he)
    | _ => cases m <;> simp [shal] at he <;> simp [eqD, toP, PyData.eqv]
  | .lst ds, e, n + 1, m, hs, he => by
    cases e with
    | lst es =>
      cases m with
      | zero => simp [shal] at he
      | succ m =>
        simp only [eqD, toP, PyData.eqv]
        exact eqDs_eqv (n := n) (m := m) (by simpa [shal] using hs) (by simpa [shal] using he)
    | _ => cases m <;> simp [shal] at he <;> simp [eqD, toP, PyData.eqv]
  | .dic _ _, _, n, _, hs, _ => by cases n <;> simp [shal] at hs
  | .ldic _ _, _, n, _, hs, _ => by cases n <;> simp [shal] at hs
  | .ref _, _, n, _, hs, _ => by cases n <;> simp [shal] at hs
  | .scr _, _, n, _, hs, _ => by cases n <;> simp [shal] at hs
theorem eqDs_eqv : ∀ {ds es : List D} {n m : Nat}, (∀ x ∈ ds, shal n x = true) → (∀ x ∈ es, shal m x = true) → eqDs ds es = PyData.eqvAll (toPs ds) (toPs es)
  | [], [], _, _, _, _ => rfl
  | [], _ :: _, _, _, _, _ => rfl
  | _ :: _, [], _, _, _, _ => rfl
  | d :: ds, e :: es, n, m, hd, he => by
    simp only [eqDs, toPs, PyData.eqvAll]
    rw [eqD_eqv (hd d (by simp)) (he e (by simp)), eqDs_eqv (fun x hx => hd x (by simp [hx])) fun x hx => he x (by simp [hx])]
end

def rCmp (K : PySem.W.Frag) (o : Cop) : R2 := fun x y H Q => ∃ g st d1 d2 b, Wf K g H st ∧ RB K g H d1 x ∧ RB K g H d2 y ∧ cmpop o d1 d2 = some b ∧ Q (.bl b) H
section
variable {X : Cx}
theorem op_cmp_eq (hu : X.A.units + 65 < cLine) : OpR X (compareOp .Eq) (rCmp X.K .eq) := by
  intro pins s σ H x y v u Q I rx ry h
  obtain ⟨g, st, d1, d2, b, w, h1, h2, e, q⟩ := h
  have e' : (if (shal 12 d1 && shal 12 d2) = true then some (eqD d1 d2) else none) = some b := by rw [← e]; cases d1 <;> cases d2 <;> rfl
  split at e'
  · rename_i hs
    rw [Bool.and_eq_true] at hs
    cases e'
    rw [eqD_eqv hs.1 hs.2] at q
    exact op_eqD (by omega) pins s σ H x y v u Q I rx ry ⟨_, _, h1.dp hs.1, h2.dp hs.2, shal_shaped hs.1 (by decide), shal_shaped hs.2 (by decide), q⟩
  · cases e'
theorem op_cmp_ne (hu : X.A.units + 65 < cLine) : OpR X (compareOp .NotEq) (rCmp X.K .ne) := by
  intro pins s σ H x y v u Q I rx ry h
  obtain ⟨g, st, d1, d2, b, w, h1, h2, e, q⟩ := h
  have e' : (if (shal 12 d1 && shal 12 d2) = true then some (!eqD d1 d2) else none) = some b := by rw [← e]; cases d1 <;> cases d2 <;> rfl
  split at e'
  · rename_i hs
    rw [Bool.and_eq_true] at hs
    cases e'
    rw [eqD_eqv hs.1 hs.2] at q
    exact op_neD (by omega) pins s σ H x y v u Q I rx ry ⟨_, _, h1.dp hs.1, h2.dp hs.2, shal_shaped hs.1 (by decide), shal_shaped hs.2 (by decide), q⟩
  · cases e'
theorem intsOf_eq : ∀ {ds : List D} {is : List Int}, intsOf ds = some is → ds = is.map .int
  | [], _, h => by cases h; rfl
  | d :: ds, is, h => by
    cases d <;> simp only [intsOf] at h <;> try cases h
    cases e : intsOf ds with
    | none => rw [e] at h; cases h
    | some js => rw [e] at h; cases h; rw [intsOf_eq e]; rfl
theorem RVs.ints {K : PySem.W.Frag} {g : Gh} {H : Hp} : ∀ {is : List Int} {vs : List V}, RVs K g H (is.map .int) vs → vs = is.map V.int
  | [], _, h => h
  | i :: is, _, h => by
    obtain ⟨v, ws, rfl, h1, h2⟩ := h
    cases h1
    rw [RVs.ints h2]; rfl
theorem boolsOf_eq : ∀ {ds : List D} {is : List Bool}, boolsOf ds = some is → ds = is.map .bool
  | [], _, h => by cases h; rfl
  | d :: ds, is, h => by
    cases d <;> simp only [boolsOf] at h <;> try cases h
    cases e : boolsOf ds with
    | none => rw [e] at h; cases h
    | some js => rw [e] at h; cases h; rw [boolsOf_eq e]; rfl
theorem RVs.bools {K : PySem.W.Frag} {g : Gh} {H : Hp} : ∀ {is : List Bool} {vs : List V}, RVs K g H (is.map .bool) vs → vs = is.map V.bl
  | [], _, h => h
  | i :: is, _, h => by
    obtain ⟨v, ws, rfl, h1, h2⟩ := h
    cases h1
    rw [RVs.bools h2]; rfl
theorem ltInts_eq : ∀ is js : List Int, ltInts is js = HT.lexLt is js
  | [], [] => rfl
  | [], _ :: _ => rfl
  | _ :: _, [] => rfl
  | a :: as, b :: bs => by
    rw [HT.lexLt_cons]
    unfold ltInts
    rw [ltInts_eq as bs]
theorem op_cmp_lt (hu : X.A.units < cLine) : OpR X (compareOp .Lt) (rCmp X.K .lt) := by
  intro pins s σ H x y v u Q I rx ry h
  obtain ⟨g, st, d1, d2, b, w, h1, h2, e, q⟩ := h
  cases d1 <;> cases d2 <;> first | cases e | skip
  · cases h1; cases h2
    exact op_lt pins s σ H _ _ v u Q I rx ry ⟨_, _, rfl, rfl, q⟩
  · rename_i xs ys
    simp only [cmpop] at e
    cases e1 : intsOf xs with
    | none => rw [e1] at e; cases e
    | some is =>
      cases e2 : intsOf ys with
      | none => rw [e1, e2] at e; cases e
      | some js =>
        rw [e1, e2] at e
        cases e
        have := intsOf_eq e1; subst this
        have := intsOf_eq e2; subst this
        obtain ⟨a, vs, rfl, ha, hv⟩ := h1
        obtain ⟨b', ws, rfl, hb, hw⟩ := h2
        rw [hv.ints] at ha
        rw [hw.ints] at hb
        rw [ltInts_eq] at q
        exact op_ltT hu pins s σ H _ _ v u Q I rx ry ⟨a, b', is, js, rfl, rfl, ha, hb, q⟩
theorem op_cmp_le : OpR X (compareOp .LtE) (rCmp X.K .le) := by
  intro pins s σ H x y v u Q I rx ry h
  obtain ⟨g, st, d1, d2, b, w, h1, h2, e, q⟩ := h
  cases d1 <;> cases d2 <;> first | cases e | skip
  cases h1; cases h2
  exact op_le pins s σ H _ _ v u Q I rx ry ⟨_, _, rfl, rfl, q⟩
theorem op_cmp_gt : OpR X (compareOp .Gt) (rCmp X.K .gt) := by
  intro pins s σ H x y v u Q I rx ry h
  obtain ⟨g, st, d1, d2, b, w, h1, h2, e, q⟩ := h
  cases d1 <;> cases d2 <;> first | cases e | skip
  cases h1; cases h2
  exact op_gt pins s σ H _ _ v u Q I rx ry ⟨_, _, rfl, rfl, q⟩
theorem op_cmp_ge : OpR X (compareOp .GtE) (rCmp X.K .ge) := by
  intro pins s σ H x y v u Q I rx ry h
  obtain ⟨g, st, d1, d2, b, w, h1, h2, e, q⟩ := h
  cases d1 <;> cases d2 <;> first | cases e | skip
  cases h1; cases h2
  exact op_ge pins s σ H _ _ v u Q I rx ry ⟨_, _, rfl, rfl, q⟩

/-! ### subscripts -/
/-- what is subscripted -/
def rIdx (K : PySem.W.Frag) : R2 := fun x y H Q => ∃ g st d1 d2 d, Wf K g H st ∧ RB K g H d1 x ∧ RB K g H d2 y ∧ idxD d1 d2 = some d ∧ ∀ v, RV K g H d v → Q v H
theorem place_ix (n : Nat) (i : Int) : place n i = ixN n i := by
  unfold place ixN
  split
  · rfl
  · split <;> split <;> first | rfl | omega
theorem RVs.atI {K : PySem.W.Frag} {g : Gh} {H : Hp} {ds : List D} {vs : List V} (h : RVs K g H ds vs) {i : Int} {d : D} (e : (place ds.length i).bind (ds[·]?) = some d) : ∃ v, L2.atI vs i = some v ∧ RV K g H d v := by
  unfold L2.atI
  rw [← place_ix, ← h.length]
  cases p : place ds.length i with
  | none => rw [p] at e; cases e
  | some k =>
    rw [p] at e
    obtain ⟨v, e1, e2⟩ := h.get (show ds[k]? = some d from e)
    exact ⟨v, e1, e2⟩
theorem ix_idx : IxR X (rIdx X.K) := by
  intro value slice pins s σ H x y v u Q I rx ry h hs
  obtain ⟨g, st, d1, d2, d, w, h1, h2, e, q⟩ := h
  cases d1 with
  | tup xs =>
    cases d2 <;> try cases e
    obtain ⟨a, vs, rfl, ha, hv⟩ := h1
    cases h2
    obtain ⟨v', e1, e2⟩ := RVs.atI hv e
    exact ix_tup value slice pins s σ H _ _ v u Q I rx ry ⟨a, vs, _, v', rfl, rfl, ha, e1, q v' e2⟩ hs
  | lst xs =>
    cases d2 <;> try cases e
    obtain ⟨a, vs, rfl, _, ha, hv⟩ := h1
    cases h2
    obtain ⟨v', e1, e2⟩ := RVs.atI hv e
    exact ix_list value slice pins s σ H _ _ v u Q I rx ry ⟨a, vs, _, v', rfl, rfl, .inl (.inl ha), e1, q v' e2⟩ hs
  | scr xs =>
    cases d2 <;> try cases e
    obtain ⟨a, vs, rfl, ha, hv⟩ := h1
    cases h2
    obtain ⟨v', e1, e2⟩ := RVs.atI hv e
    exact ix_list value slice pins s σ H _ _ v u Q I rx ry ⟨a, vs, _, v', rfl, rfl, scr_sq ha, e1, q v' e2⟩ hs
  | dic ks ws => cases d2 <;> cases e
  | ldic ks ws => cases d2 <;> cases e
  | str z =>
    cases d2 <;> try cases e
    rename_i i
    cases h1; cases h2
    simp only [idxD] at e
    split at e
    case isFalse => cases e
    rename_i hz
    simp only [Str.length] at e
    cases p : place z.cps.size i with
    | none => rw [p] at e; cases e
    | some k =>
      rw [p] at e
      cases cc : z.cps.toList[k]? with
      | none => rw [Option.bind_some, cc] at e; cases e
      | some c =>
        rw [Option.bind_some, cc] at e
        cases e
        refine ix_str value slice pins s σ H _ _ v u Q I rx ry ⟨z, i, c, rfl, rfl, ?_, ?_, q _ rfl⟩ hs
        · exact Nat.le_trans hz lim_le
        · unfold L2.atI
          rw [← place_ix, Array.length_toList, p]
          exact cc
  | non => cases d2 <;> cases e
  | bool _ => cases d2 <;> cases e
  | int _ => cases d2 <;> cases e
  | ref _ => cases d2 <;> cases e
end
end DDS

set_option Elab.async false
set_option linter.all false
set_option maxRecDepth 100000
set_option maxHeartbeats 2000000
namespace DDS
open PySem PySem.Spec PyProof.Rows L2 DD
theorem RVs.drop {K : PySem.W.Frag} {g : Gh} {H : Hp} : ∀ {ds : List D} {vs : List V} (n : Nat), RVs K g H ds vs → RVs K g H (ds.drop n) (vs.drop n)
  | _, _, 0, h => h
  | [], _, n + 1, h => by rw [show _ = _ from h]; rfl
  | d :: ds, _, n + 1, h => by
    obtain ⟨v, ws, rfl, _, h2⟩ := h
    exact RVs.drop n h2
theorem RVs.take {K : PySem.W.Frag} {g : Gh} {H : Hp} : ∀ {ds : List D} {vs : List V} (n : Nat), RVs K g H ds vs → RVs K g H (ds.take n) (vs.take n)
  | _, _, 0, _ => by simp only [List.take_zero]; rfl
  | [], _, n + 1, h => by rw [show _ = _ from h]; rfl
  | d :: ds, _, n + 1, h => by
    obtain ⟨v, ws, rfl, h1, h2⟩ := h
    exact ⟨v, _, rfl, h1, RVs.take n h2⟩
theorem sIx_eq (n d : Nat) (o : Option Int) : HT.sIx n d o = (match o with | some i => clampI n i | none => d) := by cases o <;> rfl
theorem RVs.cut {K : PySem.W.Frag} {g : Gh} {H : Hp} {ds : List D} {vs : List V} (h : RVs K g H ds vs) (lo hi : Option Int) : RVs K g H (sliceL ds lo hi) (cutV vs lo hi) := by
  have e : cutV vs lo hi = sliceL vs lo hi := by
    unfold cutV sliceL
    rw [sIx_eq, sIx_eq] <;> rfl
  rw [e]
  unfold sliceL
  rw [h.length]
  exact (h.drop _).take _
theorem RVs.rev {K : PySem.W.Frag} {g : Gh} {H : Hp} : ∀ {ds : List D} {vs : List V}, RVs K g H ds vs → RVs K g H ds.reverse vs.reverse
  | [], _, h => by rw [show _ = _ from h]; rfl
  | d :: ds, _, h => by
    obtain ⟨v, ws, rfl, h1, h2⟩ := h
    simp only [List.reverse_cons]
    exact (RVs.rev h2).append ⟨v, [], rfl, h1, rfl⟩
def rSl (K : PySem.W.Frag) : V → Option Int → Option Int → Hp → VK → Prop := fun x lo hi H Q => ∃ g st d, Wf K g H st ∧ RB K g H d x ∧ Gives K g H st (sliceD d lo hi) Q
section
variable {X : Cx}
theorem sl_all : SlR X (rSl X.K) := by
  intro pins s σ H x v vl vu lo hi sl Q I rx hs pl pu h
  obtain ⟨g, st, d, w, h1, q⟩ := h
  cases d <;> first | exact Gives.no q | skip
  · rename_i z
    obtain ⟨hz, q⟩ := Gives.ite q
    cases h1
    refine sl_str pins s σ H _ v vl vu lo hi sl Q I rx hs pl pu ⟨z, rfl, Nat.le_trans hz lim_le, ?_⟩
    have e : cutS z lo hi = ⟨(sliceL z.cps.toList lo hi).toArray⟩ := by
      unfold cutS sliceL
      rw [sIx_eq, sIx_eq, Array.length_toList]; rfl
    rw [e]
    exact q.flat w rfl rfl
  · rename_i xs
    obtain ⟨a, vs, rfl, ha, hv⟩ := h1
    refine sl_tupN pins s σ H _ v vl vu lo hi sl Q I rx hs pl pu ⟨a, vs, rfl, ha.t, fun hw => ?_, fun _ => Gives.tup q w (hv.cut lo hi)⟩
    refine q.flat w rfl ⟨a, vs, rfl, ha, ?_⟩
    have e : cutV vs lo hi = vs := by
      unfold cutV
      rw [hw.1, hw.2]; simp
    have := hv.cut lo hi
    rw [e] at this
    exact this
  · rename_i xs
    obtain ⟨a, vs, rfl, _, ha, hv⟩ := h1
    exact sl_list pins s σ H _ v vl vu lo hi sl Q I rx hs pl pu ⟨a, vs, rfl, .inl (.inl ha), fun p hp => Gives.lst q w (hv.cut lo hi) hp⟩

/-! ### built-ins -/
def rB1 (K : PySem.W.Frag) (b : Bi) : List V → Hp → VK → Prop := fun xs H Q => ∃ g st d x, xs = [x] ∧ Wf K g H st ∧ RB K g H d x ∧ Gives K g H st (bi1 b d) Q
def rB2 (K : PySem.W.Frag) (b : Bi) : List V → Hp → VK → Prop := fun xs H Q => ∃ g st d e x y, xs = [x, y] ∧ Wf K g H st ∧ RB K g H d x ∧ RB K g H e y ∧ Gives K g H st (bi2 b d e) Q
theorem call_b_len : CallR X (.builtin "len") (rB1 X.K .len) := by
  intro pins s σ H xs us Q I r h
  obtain ⟨g, st, d, x, rfl, w, hx, q⟩ := h
  cases d <;> first | exact Gives.no q | skip
  · rename_i z
    cases hx
    by_cases hz : z.length ≤ lim
    · have q' : Gives X.K g H st (some (.int z.length)) Q := by simpa only [bi1, D.len, if_pos hz, Option.map_some] using q
      exact call_len pins s σ H _ us Q I r ⟨_, z.length, rfl, ⟨Nat.le_trans hz lim_le, rfl⟩, q'.flat w rfl rfl⟩
    · have q' : Gives X.K g H st none Q := by simpa only [bi1, D.len, if_neg hz, Option.map_none] using q
      exact q'.no
  · obtain ⟨a, vs, rfl, ha, hv⟩ := hx
    refine call_len pins s σ H _ us Q I r ⟨_, vs.length, rfl, .inr ⟨vs, ha, rfl⟩, ?_⟩
    rw [← hv.length]
    exact Gives.flat (d := .int _) q w rfl rfl
  · obtain ⟨a, vs, rfl, _, ha, hv⟩ := hx
    refine call_len pins s σ H _ us Q I r ⟨_, vs.length, rfl, .inl ⟨vs, .inl (.inl ha), rfl⟩, ?_⟩
    rw [← hv.length]
    exact Gives.flat (d := .int _) q w rfl rfl
  · obtain ⟨a, vs, rfl, ha, hv⟩ := hx
    refine call_len pins s σ H _ us Q I r ⟨_, vs.length, rfl, .inl ⟨vs, scr_sq ha, rfl⟩, ?_⟩
    rw [← hv.length]
    exact Gives.flat (d := .int _) q w rfl rfl
theorem call_b_abs : CallR X (.builtin "abs") (rB1 X.K .abs) := by
  intro pins s σ H xs us Q I r h
  obtain ⟨g, st, d, x, rfl, w, hx, q⟩ := h
  cases d <;> first | exact Gives.no q | skip
  cases hx
  exact call_abs pins s σ H _ us Q I r ⟨_, rfl, Gives.flat (d := .int _) q w rfl rfl⟩
theorem call_b_max2 (hc : X.calm = true) : CallR X (.builtin "max") (rB2 X.K .max2) := by
  intro pins s σ H xs us Q I r h
  obtain ⟨g, st, d, e, x, y, rfl, w, hx, hy, q⟩ := h
  cases d <;> cases e <;> first | exact Gives.no q | skip
  cases hx; cases hy
  exact call_max2 hc pins s σ H _ us Q I r ⟨_, _, rfl, Gives.flat (d := .int _) q w rfl rfl⟩
theorem call_b_min2 (hc : X.calm = true) : CallR X (.builtin "min") (rB2 X.K .min2) := by
  intro pins s σ H xs us Q I r h
  obtain ⟨g, st, d, e, x, y, rfl, w, hx, hy, q⟩ := h
  cases d <;> cases e <;> first | exact Gives.no q | skip
  cases hx; cases hy
  exact call_min2 hc pins s σ H _ us Q I r ⟨_, _, rfl, Gives.flat (d := .int _) q w rfl rfl⟩
theorem call_b_int : CallR X (.type "int") (rB1 X.K .int) := by
  intro pins s σ H xs us Q I r h
  obtain ⟨g, st, d, x, rfl, w, hx, q⟩ := h
  cases d <;> first | exact Gives.no q | skip
  · cases hx
    exact call_int1 pins s σ H _ us Q I r (.inr ⟨_, rfl, Gives.flat (d := .int _) q w rfl rfl⟩)
  · cases hx
    exact call_int1 pins s σ H _ us Q I r (.inl ⟨_, rfl, Gives.flat (d := .int _) q w rfl rfl⟩)
  · rename_i z
    cases hx
    by_cases h1 : z.length ≤ 600 ∧ z.cps.toList ≠ [] ∧ z.cps.toList.all isDig = true
    · have q' : Gives X.K g H st (some (.int (digVal z.cps.toList : Nat))) Q := by simpa only [bi1, if_pos h1] using q
      have hd : NumText.AllDigits z.cps.toList := fun c hc => by
        have := List.all_eq_true.mp h1.2.2 c hc
        simpa [isDig] using this
      exact call_int_str pins s σ H _ us Q I r ⟨z, _, rfl, intText_digits hd h1.2.1 (by omega), by omega, Gives.flat (d := .int _) q' w rfl rfl⟩
    · have q' : Gives X.K g H st none Q := by simpa only [bi1, if_neg h1] using q
      exact q'.no
theorem call_b_str : CallR X (.type "str") (rB1 X.K .str) := by
  intro pins s σ H xs us Q I r h
  obtain ⟨g, st, d, x, rfl, w, hx, q⟩ := h
  cases d <;> first | exact Gives.no q | skip
  rename_i i
  cases hx
  by_cases h1 : i.natAbs.log2 < 1920
  · have q' : Gives X.K g H st (some (.str (PySem.Str.ofString (toString i)))) Q := by simpa only [bi1, if_pos h1] using q
    exact call_str_int pins s σ H _ us Q I r ⟨_, rfl, h1, Gives.flat (d := .str _) q' w rfl rfl⟩
  · have q' : Gives X.K g H st none Q := by simpa only [bi1, if_neg h1] using q
    exact q'.no
theorem call_b_list : CallR X (.type "list") (rB1 X.K .list) := by
  intro pins s σ H xs us Q I r h
  obtain ⟨g, st, d, x, rfl, w, hx, q⟩ := h
  cases d <;> first | exact Gives.no q | skip
  · obtain ⟨a, vs, rfl, ha, hv⟩ := hx
    exact call_list_of pins s σ H _ us Q I r ⟨a, vs, rfl, .inr ha, fun p hp => Gives.lst q w hv hp⟩
  · obtain ⟨a, vs, rfl, _, ha, hv⟩ := hx
    exact call_list_of pins s σ H _ us Q I r ⟨a, vs, rfl, .inl (.inl (.inl ha)), fun p hp => Gives.lst q w hv hp⟩
theorem call_b_tuple : CallR X (.type "tuple") (rB1 X.K .tuple) := by
  intro pins s σ H xs us Q I r h
  obtain ⟨g, st, d, x, rfl, w, hx, q⟩ := h
  cases d <;> first | exact Gives.no q | skip
  · obtain ⟨a, vs, rfl, ha, hv⟩ := hx
    exact call_tuple_of pins s σ H _ us Q I r ⟨a, vs, rfl, .inr ⟨ha, Gives.flat (d := .tup _) q w rfl ⟨a, vs, rfl, ha, hv⟩⟩⟩
  · obtain ⟨a, vs, rfl, _, ha, hv⟩ := hx
    exact call_tupleN pins s σ H _ us Q I r ⟨a, vs, rfl, .inl (.inl ha), Gives.tup q w hv⟩
/-- the items of what is walked whole: a list or a tuple of ints -/
theorem items_ints {K : PySem.W.Frag} {g : Gh} {H : Hp} {d : D} {x : V} {is : List Int} (hx : RB K g H d x) (e : d.items.bind intsOf = some is) : ∃ a, x = .ref a ∧ (H a = some (.lst (is.map V.int)) ∨ SqT K H a (is.map V.int)) := by
  cases d <;> try cases e
  · rename_i ds
    have e' : intsOf ds = some is := e
    have := intsOf_eq e'; subst this
    obtain ⟨a, vs, rfl, ha, hv⟩ := hx
    rw [hv.ints] at ha
    exact ⟨a, rfl, .inr ha⟩
  · rename_i ds
    have e' : intsOf ds = some is := e
    have := intsOf_eq e'; subst this
    obtain ⟨a, vs, rfl, _, ha, hv⟩ := hx
    rw [hv.ints] at ha
    exact ⟨a, rfl, .inl ha⟩
theorem Gives.bind {K : PySem.W.Frag} {g : Gh} {H : Hp} {st : Store} {Q : VK} {α : Type} {o : Option α} {f : α → Option D} (h : Gives K g H st (o.bind f) Q) : ∃ a, o = some a ∧ Gives K g H st (f a) Q := by
  cases o with
  | none => exact h.no
  | some a => exact ⟨a, rfl, h⟩
theorem Gives.map {K : PySem.W.Frag} {g : Gh} {H : Hp} {st : Store} {Q : VK} {α : Type} {o : Option α} {f : α → D} (h : Gives K g H st (o.map f) Q) : ∃ a, o = some a ∧ Gives K g H st (some (f a)) Q := by
  cases o with
  | none => exact h.no
  | some a => exact ⟨a, rfl, h⟩
theorem foldl_max_le : ∀ (ns : List Int) (n : Int), n ≤ ns.foldl max n ∧ ∀ y ∈ ns, y ≤ ns.foldl max n
  | [], n => ⟨Int.le_refl _, fun _ h => by cases h⟩
  | m :: ns, n => by
    obtain ⟨h1, h2⟩ := foldl_max_le ns (max n m)
    simp only [List.foldl_cons]
    refine ⟨by omega, fun y hy => ?_⟩
    rcases List.mem_cons.mp hy with rfl | hy
    · omega
    · exact h2 y hy
theorem foldl_max_mem : ∀ (ns : List Int) (n : Int), ns.foldl max n = n ∨ ns.foldl max n ∈ ns
  | [], n => .inl rfl
  | m :: ns, n => by
    simp only [List.foldl_cons]
    rcases foldl_max_mem ns (max n m) with h | h
    · rw [h]
      rcases Int.le_total n m with q | q
      · right; rw [Int.max_eq_right q]; simp
      · left; exact Int.max_eq_left q
    · right; simp [h]
theorem foldl_min_le : ∀ (ns : List Int) (n : Int), ns.foldl min n ≤ n ∧ ∀ y ∈ ns, ns.foldl min n ≤ y
  | [], n => ⟨Int.le_refl _, fun _ h => by cases h⟩
  | m :: ns, n => by
    obtain ⟨h1, h2⟩ := foldl_min_le ns (min n m)
    simp only [List.foldl_cons]
    refine ⟨by omega, fun y hy => ?_⟩
    rcases List.mem_cons.mp hy with rfl | hy
    · omega
    · exact h2 y hy
theorem foldl_min_mem : ∀ (ns : List Int) (n : Int), ns.foldl min n = n ∨ ns.foldl min n ∈ ns
  | [], n => .inl rfl
  | m :: ns, n => by
    simp only [List.foldl_cons]
    rcases foldl_min_mem ns (min n m) with h | h
    · rw [h]
      rcases Int.le_total n m with q | q
      · left; exact Int.min_eq_left q
      · right; rw [Int.min_eq_right q]; simp
    · right; simp [h]
theorem ints_readsAll {h : Heap} : ∀ {its : List Value} {ns : List Int}, IntsAre its ns → ∃ as, ReadsAll h its (ns.map PyData.int) as := by
  intro its
  induction its with
  | nil => intro ns hi; cases ns with
    | nil => exact ⟨_, ReadsAll.nil⟩
    | cons n ns => exact absurd hi.length (by simp)
  | cons x its ih =>
    intro ns hi
    have hv := vals_of_ints hi
    cases ns with
    | nil => cases hv
    | cons n ns =>
      cases hv with
      | cons r t =>
        obtain ⟨tk, rfl⟩ := r
        obtain ⟨bs, hb⟩ := ih (intsAre_of t)
        exact ⟨_, ReadsAll.cons (Reads.int n tk) hb⟩
theorem alike_ints (ns : List Int) : PySem.W.AlikeAll (ns.map PyData.int) := by
  refine ⟨fun x hx y hy => ?_, fun x hx => ?_⟩
  · obtain ⟨i, _, rfl⟩ := List.mem_map.mp hx
    obtain ⟨j, _, rfl⟩ := List.mem_map.mp hy
    rfl
  · obtain ⟨i, _, rfl⟩ := List.mem_map.mp hx
    exact fun z => nomatch z
theorem depth_ints : ∀ ns : List Int, PyData.depthAll (ns.map PyData.int) = 0
  | [] => rfl
  | n :: ns => by simp [PyData.depthAll, PyData.depth, depth_ints ns]
theorem call_b_max (hc : X.calm = true) (hu : X.A.units + 65 < cLine) : CallR X (.builtin "max") (rB1 X.K .max1) := by
  intro pins s σ H xs us Q I r h
  obtain ⟨g, st, d, x, rfl, w, hx, q⟩ := h
  obtain ⟨is, e, q⟩ := Gives.bind (show Gives X.K g H st ((d.items.bind intsOf).bind fun is => (maxI is).map .int) Q by cases d <;> exact q)
  obtain ⟨a, rfl, ha⟩ := items_ints hx e
  cases is with
  | nil => exact Gives.no q
  | cons n ns =>
    have qq : Q (.int (ns.foldl max n)) H := Gives.flat (d := .int (ns.foldl max n)) q w rfl rfl
    rcases ha with ha | ha
    · refine cr_max hc pins s σ H _ us Q I r ⟨a, n :: ns, rfl, .inl (.inl ha), by simp, fun m hm hle => ?_⟩
      have h1 := foldl_max_le ns n
      have h2 := foldl_max_mem ns n
      have e1 : m = ns.foldl max n := by
        apply Int.le_antisymm
        · rcases List.mem_cons.mp hm with rfl | hm
          · exact h1.1
          · exact h1.2 m hm
        · rcases h2 with h2 | h2
          · rw [h2]; exact hle n (by simp)
          · exact hle _ (by simp [h2])
      rw [e1]; exact qq
    · obtain ⟨its, rv, ht, hz⟩ := I.tuple ha
      rw [Vals.ref1 r]
      obtain ⟨as, hr⟩ := ints_readsAll (h := s.heap) rv.ints
      refine PySem.W.max_tuple_data (x := .int n) (xs := ns.map .int) (I.ok.hd hc) (show s.heap.IsTuple a its.toArray from ht) (by simpa using hr) (alike_ints (n :: ns)) (by
        have := depth_ints (n :: ns)
        rw [List.map_cons] at this
        rw [this]; omega) fun i v h' tk bs _ hv hk => ?_
      rw [PySem.W.maxD_ints] at hv
      cases hv
      exact ⟨.int _, H, I.kept hk, ⟨_, rfl⟩, qq⟩
theorem call_b_min (hc : X.calm = true) (hu : X.A.units + 65 < cLine) : CallR X (.builtin "min") (rB1 X.K .min1) := by
  intro pins s σ H xs us Q I r h
  obtain ⟨g, st, d, x, rfl, w, hx, q⟩ := h
  obtain ⟨is, e, q⟩ := Gives.bind (show Gives X.K g H st ((d.items.bind intsOf).bind fun is => (minI is).map .int) Q by cases d <;> exact q)
  obtain ⟨a, rfl, ha⟩ := items_ints hx e
  cases is with
  | nil => exact Gives.no q
  | cons n ns =>
    have qq : Q (.int (ns.foldl min n)) H := Gives.flat (d := .int (ns.foldl min n)) q w rfl rfl
    rcases ha with ha | ha
    · refine cr_min hc pins s σ H _ us Q I r ⟨a, n :: ns, rfl, .inl (.inl ha), by simp, fun m hm hle => ?_⟩
      have h1 := foldl_min_le ns n
      have h2 := foldl_min_mem ns n
      have e1 : m = ns.foldl min n := by
        apply Int.le_antisymm
        · rcases h2 with h2 | h2
          · rw [h2]; exact hle n (by simp)
          · exact hle _ (by simp [h2])
        · rcases List.mem_cons.mp hm with rfl | hm
          · exact h1.1
          · exact h1.2 m hm
      rw [e1]; exact qq
    · obtain ⟨its, rv, ht, hz⟩ := I.tuple ha
      rw [Vals.ref1 r]
      obtain ⟨as, hr⟩ := ints_readsAll (h := s.heap) rv.ints
      refine PySem.W.min_tuple_data (x := .int n) (xs := ns.map .int) (I.ok.hd hc) (show s.heap.IsTuple a its.toArray from ht) (by simpa using hr) (alike_ints (n :: ns)) (by
        have := depth_ints (n :: ns)
        rw [List.map_cons] at this
        rw [this]; omega) fun i v h' tk bs _ hv hk => ?_
      rw [PySem.W.minD_ints] at hv
      cases hv
      exact ⟨.int _, H, I.kept hk, ⟨_, rfl⟩, qq⟩
theorem call_b_all (hc : X.calm = true) : CallR X (.builtin "all") (rB1 X.K .all) := by
  intro pins s σ H xs us Q I r h
  obtain ⟨g, st, d, x, rfl, w, hx, q⟩ := h
  cases d <;> first | exact Gives.no q | skip
  rename_i ds
  obtain ⟨bs, e, q'⟩ := Gives.map (show Gives X.K g H st ((boolsOf ds).map fun bs => .bool (bs.all id)) Q from q)
  have := boolsOf_eq e; subst this
  obtain ⟨a, vs, rfl, _, ha, hv⟩ := hx
  rw [hv.bools] at ha
  exact cr_all hc pins s σ H _ us Q I r ⟨a, bs, rfl, .inl (.inl ha), Gives.flat (d := .bool _) q' w rfl rfl⟩
theorem call_b_sum (hc : X.calm = true) : CallR X (.builtin "sum") (rB1 X.K .sum) := by
  intro pins s σ H xs us Q I r h
  obtain ⟨g, st, d, x, rfl, w, hx, q⟩ := h
  obtain ⟨is, e, q'⟩ := Gives.map (show Gives X.K g H st ((d.items.bind intsOf).map fun is => .int is.sum) Q by cases d <;> exact q)
  obtain ⟨a, rfl, ha⟩ := items_ints hx e
  have qq : Q (.int is.sum) H := Gives.flat (d := .int is.sum) q' w rfl rfl
  rcases ha with ha | ha
  · exact cr_sum hc pins s σ H _ us Q I r ⟨a, is, rfl, .inl (.inl ha), qq⟩
  · obtain ⟨its, rv, ht, hz⟩ := I.tuple ha
    rw [Vals.ref1 r]
    have hi := rv.ints
    obtain ⟨xs, hx⟩ := hi.allInts.items
    have hn : numsOf its.toArray.toList = is := by rw [show its.toArray.toList = its from rfl, hi.numsOf]
    have ht' : s.heap.IsTuple a its.toArray := ht
    rw [hx] at ht' hn
    rw [nums_intItems] at hn
    refine PySem.W.ktm_sumG (I.ok.hd hc) ht' fun h' tk t' hk => ?_
    rw [preSum_eq, List.take_of_length_le (by simp), hn]
    exact ⟨.int _, H, I.kept hk, ⟨_, rfl⟩, qq⟩

/-! ### isinstance -/
def tyN : D → Option String
  | .non => some "NoneType"
  | .bool _ => some "bool"
  | .int _ => some "int"
  | .str _ => some "str"
  | .tup _ => some "tuple"
  | .lst _ => some "list"
  | .dic _ _ => some "dict"
  | _ => none
def tyS : Ty → Option String
  | .int => some "int"
  | .bool => some "bool"
  | .str => some "str"
  | .tuple => some "tuple"
  | .list => some "list"
  | .dict => some "dict"
theorem SqT.tyx {K : PySem.W.Frag} {H : Hp} {a : Addr} {xs : List V} (h : SqT K H a xs) : TyX K H (.ref a) (.type "tuple") := by
  rcases h with (h | ⟨o, h⟩) | ⟨o, its, n, h, c, _⟩
  · exact .base (.tup h)
  · exact .fTuple h
  · exact .kTuple h c
theorem RB.tyx {K : PySem.W.Frag} {g : Gh} {H : Hp} {d : D} {x : V} {t : String} (h : RB K g H d x) (e : tyN d = some t) : TyX K H x (.type t) := by
  cases d <;> cases e
  · cases h; exact .base .non
  · cases h; exact .base (.bl _)
  · cases h; exact .base (.int _)
  · cases h; exact .base (.str _)
  · obtain ⟨a, vs, rfl, ha, _⟩ := h; exact SqT.tyx ha.t
  · obtain ⟨a, vs, rfl, _, ha, _⟩ := h; exact .base (.lst ha)
  · obtain ⟨a, kvs, rfl, _, ha, _⟩ := h; exact .base (.dK ha)
theorem kit_d {d : D} {ty : Ty} {a b : String} (e1 : tyN d = some a) (e2 : tyS ty = some b) : kitB a b = some (isTy d ty) := by
  cases d <;> cases e1 <;> cases ty <;> cases e2 <;> first | rfl | decide +kernel
end
end DDS

set_option Elab.async false
set_option linter.all false
set_option maxRecDepth 100000
set_option maxHeartbeats 2000000
namespace DDZ
open PySem PySem.Spec PyProof.Rows L2 DD
abbrev St := L2.St

/-! lists and tuples alike: t tells which -/
def Sq (t : Bool) (K : PySem.W.Frag) (H : Hp) (a : Addr) (xs : List V) : Prop := match t with
  | true => SqT K H a xs
  | false => SqL K H a xs
def ItS (t : Bool) (h : Heap) (it a : Addr) (i : Nat) : Prop := match t with
  | true => h.IsTupleIter it a i
  | false => h.IsListIter it a i
def SqH (t : Bool) (h : Heap) (a : Addr) (its : Array Value) : Prop := match t with
  | true => h.IsTuple a its
  | false => h.IsList a its
def itObj (t : Bool) (a : Addr) : Obj := match t with
  | true => { cls := .type "tuple_iterator", data := .fields #[.ref a, .int 0 0] }
  | false => { cls := .type "list_iterator", data := .fields #[.ref a, .int 0 0] }
theorem SqH.lt {t : Bool} {h : Heap} {a : Addr} {its : Array Value} (x : SqH t h a its) : a < h.objs.size := by
  cases t <;> (obtain ⟨o, e, _⟩ := x; exact Heap.lt_size e)
theorem SqH.keeps {t : Bool} {h h' : Heap} {a : Addr} {its : Array Value} (x : SqH t h a its) (k : ∀ o, h.get? a = some o → h'.get? a = some o) : SqH t h' a its := by
  cases t
  · exact Heap.IsList.at x k
  · exact Heap.IsTuple.at x k
theorem ItS.keeps {t : Bool} {h h' : Heap} {it a : Addr} {i : Nat} (x : ItS t h it a i) (k : ∀ o, h.get? it = some o → h'.get? it = some o) : ItS t h' it a i := by
  cases t
  · exact Heap.IsListIter.at x k
  · exact Heap.IsTupleIter.at x k
theorem ItS.obj {t : Bool} {h : Heap} {it a : Addr} {i : Nat} (x : ItS t h it a i) : ∃ o, h.get? it = some o ∧ ∀ v, o.data ≠ .cell v := by
  cases t <;> (obtain ⟨o, e, _, d⟩ := x; exact ⟨o, e, fun v q => by rw [d] at q; cases q⟩)
theorem ItS.start {t : Bool} {h : Heap} {it a : Addr} (x : h.get? it = some (itObj t a)) : ItS t h it a 0 := by
  cases t <;> exact ⟨_, x, rfl, rfl⟩
theorem begins (t : Bool) (a : Addr) (its : Array Value) : Begins (.ref a) (itObj t a) fun h => SqH t h a its := by
  cases t
  · exact begins_list a its
  · exact begins_tuple a its
theorem draws {prog : Program} {w : World} {A : Around} (hh : A.handled = none) (t : Bool) (it a : Addr) (hne : a ≠ it) (its : Array Value) :
    Draws prog w A it [it, a] its.size (fun i v => its[i]? = some v) (fun i h => ItS t h it a i ∧ SqH t h a its) := by
  cases t
  · exact Draws.list hh it a hne its
  · exact Draws.tuple hh it a hne its
section
variable {X : Cx} {pins : List (Addr × Obj)} {σ : St} {H : Hp} {s : Shared} {a : Addr} {xs ys : List V} {t : Bool}
theorem sq_get (I : Inv X pins σ H s) (h : Sq t X.K H a xs) : ∃ its : List Value, Vals xs its ∧ SqH t s.heap a its.toArray ∧ xs.length ≤ sizeLine := by
  cases t
  · obtain ⟨its, rv, p, z⟩ := I.list h
    exact ⟨its, rv, p.isList, z⟩
  · obtain ⟨its, rv, p, z⟩ := I.tuple h
    exact ⟨its, rv, p, z⟩
theorem sq_inj (I : Inv X pins σ H s) (h : Sq t X.K H a xs) (h' : Sq t X.K H a ys) : xs = ys := by
  cases t
  · exact I.list_inj h h'
  · exact I.tuple_inj h h'
end
/-! ### zip of two -/
def Itz2 (K : PySem.W.Frag) (t u : Bool) (a b : Addr) : It :=
  ⟨fun i H => ∃ (xs ys : List V) (x y : V), Sq t K H a xs ∧ Sq u K H b ys ∧ xs[i]? = some x ∧ ys[i]? = some y,
    fun i H v H' => ∃ T x y, v = .ref T ∧ H T = none ∧ (∃ o : Obj, o.dict = none ∧ H' = upd H T (.frz o (.tup [x, y]))) ∧ (∀ xs, Sq t K H a xs → xs[i]? = some x) ∧ ∀ ys, Sq u K H b ys → ys[i]? = some y,
    fun i H => ∃ xs ys : List V, Sq t K H a xs ∧ Sq u K H b ys ∧ i ≤ xs.length ∧ i ≤ ys.length ∧ (i = xs.length ∨ i = ys.length)⟩
structure Apart (z TI TO i1 i2 a b : Addr) : Prop where
  sep : ZipSep2 z TI TO i1 i2 [i1, a] [i2, b]
  ai : a ≠ i1
  bi : b ≠ i2
theorem turn_zip2 {P : Program} {w : World} {K : PySem.W.Frag} {elts : List Expr} {kk : Nat} {tpos : Pos} {t u : Bool} {a b z TI TO i1 i2 : Addr} (D : Apart z TI TO i1 i2 a b) :
    Turn P w K (.Tuple elts kk tpos) (Itz2 K t u a b) [z, TI, TO, i1, i2] z (fun i h => IsZip h z TI TO .none ∧ IsTupOf2 h TI (.ref i1) (.ref i2) ∧ (∃ x y, IsTupOf2 h TO x y) ∧ ItS t h i1 a i ∧ ItS u h i2 b i) where
  mem := by simp
  obj := fun i h st c hc => by
    obtain ⟨hz, hTI, ⟨x, y, hTO⟩, h1, h2⟩ := st
    have e' : c = z ∨ c = TI ∨ c = TO ∨ c = i1 ∨ c = i2 := by simpa using hc
    rcases e' with rfl | rfl | rfl | rfl | rfl
    · exact ⟨_, hz, fun v q => nomatch q⟩
    · exact ⟨_, hTI, fun v q => nomatch q⟩
    · exact ⟨_, hTO, fun v q => nomatch q⟩
    · exact h1.obj
    · exact h2.obj
  keep := fun i h h' st k => by
    obtain ⟨hz, hTI, ⟨x, y, hTO⟩, h1, h2⟩ := st
    exact ⟨k z (by simp) _ hz, k TI (by simp) _ hTI, ⟨x, y, k TO (by simp) _ hTO⟩, h1.keeps (k i1 (by simp)), h2.keeps (k i2 (by simp))⟩
  item := by
    intro X hP hw hK hc i pins s σ H E I hf st hg
    subst hP hw hK
    obtain ⟨hz, hTI, ⟨x0, y0, hTO⟩, h1, h2⟩ := st
    obtain ⟨xs, ys, x, y, hqx, hqy, hx, hy⟩ := hg
    obtain ⟨its, rv, p, _⟩ := sq_get I hqx
    obtain ⟨its2, rv2, p2, _⟩ := sq_get I hqy
    obtain ⟨c1, hu, ru⟩ := rv.get hx
    obtain ⟨c2, hu2, ru2⟩ := rv2.get hy
    have hzl : z < s.heap.objs.size := Heap.lt_size hz
    have hh : X.A.in1.handled = none := I.ok.hd hc
    have l1 : i < its.toArray.size := by have := (List.getElem?_eq_some_iff.mp hu).1; simpa using this
    have l2 : i < its2.toArray.size := by have := (List.getElem?_eq_some_iff.mp hu2).1; simpa using this
    refine wpAny_pyNext_zipD2_item D.sep (draws hh t i1 a D.ai its.toArray) (draws hh u i2 b D.bi its2.toArray) hz hTI hTO ⟨h1, p⟩ ⟨h2, p2⟩ l1 l2 fun v1 v2 h' tk e1 e2 z' TO' st1 st2 hT hsz hk => ?_
    obtain rfl : v1 = c1 := by
      have q : its[i]? = some v1 := by simpa using e1
      rw [hu] at q; exact (Option.some.inj q).symm
    obtain rfl : v2 = c2 := by
      have q : its2[i]? = some v2 := by simpa using e2
      rw [hu2] at q; exact (Option.some.inj q).symm
    refine ⟨_, rfl, wpAny_letOwnedTupleGo_zip (s := { s with heap := h', toks := tk }) z' fun h'' z'' sb => ?_⟩
    have hT2 : h''.get? s.heap.objs.size = some { cls := .type "tuple", data := .seq #[v1, v2] } := (sb.2 _ (Nat.ne_of_gt hzl)).trans hT
    have new : ObjOk X.prog X.w (upd H s.heap.objs.size (.frz { cls := .type "tuple", data := .seq #[v1, v2] } (.tup [x, y]))) h'' s.heap.objs.size (.frz { cls := .type "tuple", data := .seq #[v1, v2] } (.tup [x, y])) :=
      ⟨hT2, by show 2 ≤ sizeLine; decide, [v1, v2], .cons ru (.cons ru2 .nil), ⟨_, hT2, rfl, _, rfl⟩⟩
    have I1 : Inv X pins σ (upd H s.heap.objs.size (.frz { cls := .type "tuple", data := .seq #[v1, v2] } (.tup [x, y]))) { s with heap := h'', toks := tk } :=
      I.turnedNew (t' := tk) (ch := [z, TI, TO, i1, i2]) (fun c o hb q => (sb.2 c (fun q' => hb (by simp [q']))).trans (hk c o (fun q' => hb (by simp [q'])) (fun q' => hb (by simp [q'])) (fun q' => hb (by simp [q'])) (fun q' => hb (by simp [q'])) q)) hf (Nat.le_refl _) new
    refine ⟨.ref s.heap.objs.size, _, I1, rfl, ⟨_, x, y, rfl, I.hok.fresh (Nat.le_refl _), ⟨_, rfl, rfl⟩, fun l hl => by rw [sq_inj I hl hqx]; exact hx, fun l hl => by rw [sq_inj I hl hqy]; exact hy⟩, ⟨z'', ?_, ⟨v1, v2, ?_⟩, ?_, ?_⟩, fun c hcm => ?_⟩
    · exact (sb.2 _ D.sep.TIz).trans (hk _ _ D.sep.TIz D.sep.TITO D.sep.TIi1 D.sep.TIi2 hTI)
    · exact (sb.2 _ D.sep.TOz).trans TO'
    · exact st1.1.keeps fun o q => (sb.2 _ (Ne.symm D.sep.zi1)).trans q
    · exact st2.1.keeps fun o q => (sb.2 _ (Ne.symm D.sep.zi2)).trans q
    · have hlt : c < s.heap.objs.size := by
        have e' : c = z ∨ c = TI ∨ c = TO ∨ c = i1 ∨ c = i2 := by simpa using hcm
        rcases e' with rfl | rfl | rfl | rfl | rfl
        · exact hzl
        · exact Heap.lt_size hTI
        · exact Heap.lt_size hTO
        · obtain ⟨_, q, _⟩ := h1.obj; exact Heap.lt_size q
        · obtain ⟨_, q, _⟩ := h2.obj; exact Heap.lt_size q
      rw [upd_ne (Nat.ne_of_lt hlt)]
      exact (hf c hcm).1
  done := by
    intro X hP hw hK hc i pins s σ H E I hf st hg
    subst hP hw hK
    obtain ⟨hz, hTI, ⟨x0, y0, hTO⟩, h1, h2⟩ := st
    obtain ⟨xs, ys, hqx, hqy, le1, le2, hend⟩ := hg
    obtain ⟨its, rv, p, _⟩ := sq_get I hqx
    obtain ⟨its2, rv2, p2, _⟩ := sq_get I hqy
    have l1 := rv.length
    have l2 := rv2.length
    have hh : X.A.in1.handled = none := I.ok.hd hc
    refine wpAny_pyNext_zipD2_end D.sep (draws hh t i1 a D.ai its.toArray) (draws hh u i2 b D.bi its2.toArray) hz hTI hTO ⟨h1, p⟩ ⟨h2, p2⟩ (by simp; omega) (by simp; omega) (by simp; omega) fun h' tk hk => ⟨rfl, I.turnedL (t' := tk) (ch := [z, TI, TO, i1, i2]) (fun c o hb q =>
      hk c o (fun q' => hb (by simp [q'])) (fun q' => hb (by simp [q'])) (fun q' => hb (by simp [q'])) (fun q' => hb (by simp [q'])) q) hf⟩
  self := fun A i s Q E st h => wpAny_pyIter_zip st.1 h
def iZip2 (K : PySem.W.Frag) (ta : TA) : TI := fun σ H R => ta σ H fun vs H1 => ∃ t u a b xs ys, vs = [.ref a, .ref b] ∧ Sq t K H1 a xs ∧ Sq u K H1 b ys ∧ R (Itz2 K t u a b) H1
theorem pi_zip2 {X : Cx} {e e2 : Expr} {ta : TA} {p pos tpos : Pos} {elts : List Expr} {kk : Nat} (hg : Gl X "zip") (hm : X.mg "zip" = none) (ha : PA X [e, e2] ta)
    (hs : starEach [e, e2] X.env = (false, eval e X.env) :: starEach [e2] X.env) (hpl : (backTo pos (starEach [e2] X.env)).any (·.1) = false) :
    PI X (.Tuple elts kk tpos) (.Call (.Name "zip" p) [e, e2] [] pos) (iZip2 X.K ta) := by
  refine ⟨fun pins s σ H R I h => ?_⟩
  refine Call_ (ld_blt I hg hm PyProof.Rows.boot_zip (PyProof.Rows.callWith_type1 (thn (ha.run pos pins s σ H _ I h) fun us s1 ⟨vs, H1, I1, r1, q1⟩ => ?_) hs hpl))
  obtain ⟨t, u, a, b, xs, ys, ex, hqx, hqy, q⟩ := q1
  subst ex
  cases r1 with
  | cons r rr =>
    cases rr with
    | cons r' rr =>
      cases rr
      cases r
      cases r'
      obtain ⟨its, rv, p1, _⟩ := sq_get I1 hqx
      obtain ⟨its2, rv2, p2, _⟩ := sq_get I1 hqy
      refine zip_begins2 (begins t a its.toArray) (begins u b its2.toArray) p1 p2 fun h' hz hTI hTO h1 h2 hsz hk => wpAny_pyIter_zip hz ?_
      have I2 : Inv X pins σ H1 { s1 with heap := h' } := I1.kept (t' := s1.toks) hk
      have la := p1.lt
      have lb := p2.lt
      refine ⟨s1.heap.objs.size + 4, [s1.heap.objs.size + 4, s1.heap.objs.size + 2, s1.heap.objs.size + 3, s1.heap.objs.size, s1.heap.objs.size + 1], _, _, H1, rfl, I2,
        turn_zip2 ⟨zip_sep2 (fp1 := [a]) (fp2 := [b]) (by simpa using la) (by simpa using lb), Nat.ne_of_lt la, Nat.ne_of_lt (Nat.lt_succ_of_lt lb)⟩, ⟨hz, hTI, ⟨_, _, hTO⟩, ItS.start h1, ItS.start h2⟩, fun c hcm => ?_, q⟩
      have hle : s1.heap.objs.size ≤ c := by
        have e' : c = s1.heap.objs.size + 4 ∨ c = s1.heap.objs.size + 2 ∨ c = s1.heap.objs.size + 3 ∨ c = s1.heap.objs.size ∨ c = s1.heap.objs.size + 1 := by simpa using hcm
        rcases e' with z | z | z | z | z <;> rw [z] <;> first | exact Nat.le_refl _ | exact Nat.le_add_right _ _
      exact I1.fpOk hle (I1.hok.fresh hle)
/-! ### zip of three -/
def Itz3 (K : PySem.W.Frag) (t u r : Bool) (a b c : Addr) : It :=
  ⟨fun i H => ∃ (xs ys zs : List V) (x y z : V), Sq t K H a xs ∧ Sq u K H b ys ∧ Sq r K H c zs ∧ xs[i]? = some x ∧ ys[i]? = some y ∧ zs[i]? = some z,
    fun i H v H' => ∃ T x y z, v = .ref T ∧ H T = none ∧ (∃ o : Obj, o.dict = none ∧ H' = upd H T (.frz o (.tup [x, y, z]))) ∧ (∀ xs, Sq t K H a xs → xs[i]? = some x) ∧ (∀ ys, Sq u K H b ys → ys[i]? = some y) ∧ ∀ zs, Sq r K H c zs → zs[i]? = some z,
    fun i H => ∃ xs ys zs : List V, Sq t K H a xs ∧ Sq u K H b ys ∧ Sq r K H c zs ∧ i ≤ xs.length ∧ i ≤ ys.length ∧ i ≤ zs.length ∧ (i = xs.length ∨ i = ys.length ∨ i = zs.length)⟩
structure Apart3 (z TI TO i1 i2 i3 a b c : Addr) : Prop where
  sep : ZipSep3 z TI TO i1 i2 i3 [i1, a] [i2, b] [i3, c]
  ai : a ≠ i1
  bi : b ≠ i2
  ci : c ≠ i3
theorem turn_zip3 {P : Program} {w : World} {K : PySem.W.Frag} {elts : List Expr} {kk : Nat} {tpos : Pos} {t u r : Bool} {a b c z TI TO i1 i2 i3 : Addr} (D : Apart3 z TI TO i1 i2 i3 a b c) :
    Turn P w K (.Tuple elts kk tpos) (Itz3 K t u r a b c) [z, TI, TO, i1, i2, i3] z (fun i h => IsZip h z TI TO .none ∧ IsTupOf3 h TI (.ref i1) (.ref i2) (.ref i3) ∧ (∃ x y q, IsTupOf3 h TO x y q) ∧ ItS t h i1 a i ∧ ItS u h i2 b i ∧ ItS r h i3 c i) where
  mem := by simp
  obj := fun i h st d hc => by
    obtain ⟨hz, hTI, ⟨x, y, q, hTO⟩, h1, h2, h3⟩ := st
    have e' : d = z ∨ d = TI ∨ d = TO ∨ d = i1 ∨ d = i2 ∨ d = i3 := by simpa using hc
    rcases e' with rfl | rfl | rfl | rfl | rfl | rfl
    · exact ⟨_, hz, fun v q => nomatch q⟩
    · exact ⟨_, hTI, fun v q => nomatch q⟩
    · exact ⟨_, hTO, fun v q => nomatch q⟩
    · exact h1.obj
    · exact h2.obj
    · exact h3.obj
  keep := fun i h h' st k => by
    obtain ⟨hz, hTI, ⟨x, y, q, hTO⟩, h1, h2, h3⟩ := st
    exact ⟨k z (by simp) _ hz, k TI (by simp) _ hTI, ⟨x, y, q, k TO (by simp) _ hTO⟩, h1.keeps (k i1 (by simp)), h2.keeps (k i2 (by simp)), h3.keeps (k i3 (by simp))⟩
  item := by
    intro X hP hw hK hc i pins s σ H E I hf st hg
    subst hP hw hK
    obtain ⟨hz, hTI, ⟨x0, y0, q0, hTO⟩, h1, h2, h3⟩ := st
    obtain ⟨xs, ys, zs, x, y, q, hqx, hqy, hqz, hx, hy, hq⟩ := hg
    obtain ⟨its, rv, p, _⟩ := sq_get I hqx
    obtain ⟨its2, rv2, p2, _⟩ := sq_get I hqy
    obtain ⟨its3, rv3, p3, _⟩ := sq_get I hqz
    obtain ⟨c1, hu, ru⟩ := rv.get hx
    obtain ⟨c2, hu2, ru2⟩ := rv2.get hy
    obtain ⟨c3, hu3, ru3⟩ := rv3.get hq
    have hzl : z < s.heap.objs.size := Heap.lt_size hz
    have hh : X.A.in1.handled = none := I.ok.hd hc
    have l1 : i < its.toArray.size := by have := (List.getElem?_eq_some_iff.mp hu).1; simpa using this
    have l2 : i < its2.toArray.size := by have := (List.getElem?_eq_some_iff.mp hu2).1; simpa using this
    have l3 : i < its3.toArray.size := by have := (List.getElem?_eq_some_iff.mp hu3).1; simpa using this
    refine wpAny_pyNext_zipD3_item D.sep (draws hh t i1 a D.ai its.toArray) (draws hh u i2 b D.bi its2.toArray) (draws hh r i3 c D.ci its3.toArray) hz hTI hTO ⟨h1, p⟩ ⟨h2, p2⟩ ⟨h3, p3⟩ l1 l2 l3 fun v1 v2 v3 h' tk e1 e2 e3 z' TO' st1 st2 st3 hT hsz hk => ?_
    obtain rfl : v1 = c1 := by
      have q : its[i]? = some v1 := by simpa using e1
      rw [hu] at q; exact (Option.some.inj q).symm
    obtain rfl : v2 = c2 := by
      have q : its2[i]? = some v2 := by simpa using e2
      rw [hu2] at q; exact (Option.some.inj q).symm
    obtain rfl : v3 = c3 := by
      have q : its3[i]? = some v3 := by simpa using e3
      rw [hu3] at q; exact (Option.some.inj q).symm
    refine ⟨_, rfl, wpAny_letOwnedTupleGo_zip (s := { s with heap := h', toks := tk }) z' fun h'' z'' sb => ?_⟩
    have hT2 : h''.get? s.heap.objs.size = some { cls := .type "tuple", data := .seq #[v1, v2, v3] } := (sb.2 _ (Nat.ne_of_gt hzl)).trans hT
    have new : ObjOk X.prog X.w (upd H s.heap.objs.size (.frz { cls := .type "tuple", data := .seq #[v1, v2, v3] } (.tup [x, y, q]))) h'' s.heap.objs.size (.frz { cls := .type "tuple", data := .seq #[v1, v2, v3] } (.tup [x, y, q])) :=
      ⟨hT2, by show 3 ≤ sizeLine; decide, [v1, v2, v3], .cons ru (.cons ru2 (.cons ru3 .nil)), ⟨_, hT2, rfl, _, rfl⟩⟩
    have I1 : Inv X pins σ (upd H s.heap.objs.size (.frz { cls := .type "tuple", data := .seq #[v1, v2, v3] } (.tup [x, y, q]))) { s with heap := h'', toks := tk } :=
      I.turnedNew (t' := tk) (ch := [z, TI, TO, i1, i2, i3]) (fun d o hb q => (sb.2 d (fun q' => hb (by simp [q']))).trans (hk d o (fun q' => hb (by simp [q'])) (fun q' => hb (by simp [q'])) (fun q' => hb (by simp [q'])) (fun q' => hb (by simp [q'])) (fun q' => hb (by simp [q'])) q)) hf (Nat.le_refl _) new
    refine ⟨.ref s.heap.objs.size, _, I1, rfl, ⟨_, x, y, q, rfl, I.hok.fresh (Nat.le_refl _), ⟨_, rfl, rfl⟩, fun l hl => by rw [sq_inj I hl hqx]; exact hx, fun l hl => by rw [sq_inj I hl hqy]; exact hy, fun l hl => by rw [sq_inj I hl hqz]; exact hq⟩, ⟨z'', ?_, ⟨v1, v2, v3, ?_⟩, ?_, ?_, ?_⟩, fun d hcm => ?_⟩
    · exact (sb.2 _ D.sep.TIz).trans (hk _ _ D.sep.TIz D.sep.TITO D.sep.TIi1 D.sep.TIi2 D.sep.TIi3 hTI)
    · exact (sb.2 _ D.sep.TOz).trans TO'
    · exact st1.1.keeps fun o q => (sb.2 _ (Ne.symm D.sep.zi1)).trans q
    · exact st2.1.keeps fun o q => (sb.2 _ (Ne.symm D.sep.zi2)).trans q
    · exact st3.1.keeps fun o q => (sb.2 _ (Ne.symm D.sep.zi3)).trans q
    · have hlt : d < s.heap.objs.size := by
        have e' : d = z ∨ d = TI ∨ d = TO ∨ d = i1 ∨ d = i2 ∨ d = i3 := by simpa using hcm
        rcases e' with rfl | rfl | rfl | rfl | rfl | rfl
        · exact hzl
        · exact Heap.lt_size hTI
        · exact Heap.lt_size hTO
        · obtain ⟨_, q, _⟩ := h1.obj; exact Heap.lt_size q
        · obtain ⟨_, q, _⟩ := h2.obj; exact Heap.lt_size q
        · obtain ⟨_, q, _⟩ := h3.obj; exact Heap.lt_size q
      rw [upd_ne (Nat.ne_of_lt hlt)]
      exact (hf d hcm).1
  done := by
    intro X hP hw hK hc i pins s σ H E I hf st hg
    subst hP hw hK
    obtain ⟨hz, hTI, ⟨x0, y0, q0, hTO⟩, h1, h2, h3⟩ := st
    obtain ⟨xs, ys, zs, hqx, hqy, hqz, le1, le2, le3, hend⟩ := hg
    obtain ⟨its, rv, p, _⟩ := sq_get I hqx
    obtain ⟨its2, rv2, p2, _⟩ := sq_get I hqy
    obtain ⟨its3, rv3, p3, _⟩ := sq_get I hqz
    have l1 := rv.length
    have l2 := rv2.length
    have l3 := rv3.length
    have hh : X.A.in1.handled = none := I.ok.hd hc
    refine wpAny_pyNext_zipD3_end D.sep (draws hh t i1 a D.ai its.toArray) (draws hh u i2 b D.bi its2.toArray) (draws hh r i3 c D.ci its3.toArray) hz hTI hTO ⟨h1, p⟩ ⟨h2, p2⟩ ⟨h3, p3⟩ (by simp; omega) (by simp; omega) (by simp; omega) (by simp; omega) fun h' tk hk => ⟨rfl, I.turnedL (t' := tk) (ch := [z, TI, TO, i1, i2, i3]) (fun d o hb q =>
      hk d o (fun q' => hb (by simp [q'])) (fun q' => hb (by simp [q'])) (fun q' => hb (by simp [q'])) (fun q' => hb (by simp [q'])) (fun q' => hb (by simp [q'])) q) hf⟩
  self := fun A i s Q E st h => wpAny_pyIter_zip st.1 h
def iZip3 (K : PySem.W.Frag) (ta : TA) : TI := fun σ H R => ta σ H fun vs H1 => ∃ t u r a b c xs ys zs, vs = [.ref a, .ref b, .ref c] ∧ Sq t K H1 a xs ∧ Sq u K H1 b ys ∧ Sq r K H1 c zs ∧ R (Itz3 K t u r a b c) H1
theorem pi_zip3 {X : Cx} {e e2 e3 : Expr} {ta : TA} {p pos tpos : Pos} {elts : List Expr} {kk : Nat} (hg : Gl X "zip") (hm : X.mg "zip" = none) (ha : PA X [e, e2, e3] ta)
    (hs : starEach [e, e2, e3] X.env = (false, eval e X.env) :: starEach [e2, e3] X.env) (hpl : (backTo pos (starEach [e2, e3] X.env)).any (·.1) = false) :
    PI X (.Tuple elts kk tpos) (.Call (.Name "zip" p) [e, e2, e3] [] pos) (iZip3 X.K ta) := by
  refine ⟨fun pins s σ H R I h => ?_⟩
  refine Call_ (ld_blt I hg hm PyProof.Rows.boot_zip (PyProof.Rows.callWith_type1 (thn (ha.run pos pins s σ H _ I h) fun us s1 ⟨vs, H1, I1, r1, q1⟩ => ?_) hs hpl))
  obtain ⟨t, u, r, a, b, c, xs, ys, zs, ex, hqx, hqy, hqz, q⟩ := q1
  subst ex
  cases r1 with
  | cons r1 rr =>
    cases rr with
    | cons r' rr =>
      cases rr with
      | cons r'' rr =>
        cases rr
        cases r1
        cases r'
        cases r''
        obtain ⟨its, rv, p1, _⟩ := sq_get I1 hqx
        obtain ⟨its2, rv2, p2, _⟩ := sq_get I1 hqy
        obtain ⟨its3, rv3, p3, _⟩ := sq_get I1 hqz
        refine zip_begins3 (begins t a its.toArray) (begins u b its2.toArray) (begins r c its3.toArray) p1 p2 p3 fun h' hz hTI hTO h1 h2 h3 hsz hk => wpAny_pyIter_zip hz ?_
        have I2 : Inv X pins σ H1 { s1 with heap := h' } := I1.kept (t' := s1.toks) hk
        have la := p1.lt
        have lb := p2.lt
        have lc := p3.lt
        refine ⟨s1.heap.objs.size + 5, [s1.heap.objs.size + 5, s1.heap.objs.size + 3, s1.heap.objs.size + 4, s1.heap.objs.size, s1.heap.objs.size + 1, s1.heap.objs.size + 2], _, _, H1, rfl, I2,
          turn_zip3 ⟨zip_sep3 (fp1 := [a]) (fp2 := [b]) (fp3 := [c]) (by simpa using la) (by simpa using lb) (by simpa using lc), Nat.ne_of_lt la, Nat.ne_of_lt (Nat.lt_succ_of_lt lb), Nat.ne_of_lt (Nat.lt_succ_of_lt (Nat.lt_succ_of_lt lc))⟩, ⟨hz, hTI, ⟨_, _, _, hTO⟩, ItS.start h1, ItS.start h2, ItS.start h3⟩, fun d hcm => ?_, q⟩
        have hle : s1.heap.objs.size ≤ d := by
          have e' : d = s1.heap.objs.size + 5 ∨ d = s1.heap.objs.size + 3 ∨ d = s1.heap.objs.size + 4 ∨ d = s1.heap.objs.size ∨ d = s1.heap.objs.size + 1 ∨ d = s1.heap.objs.size + 2 := by simpa using hcm
          rcases e' with z | z | z | z | z | z <;> rw [z] <;> first | exact Nat.le_refl _ | exact Nat.le_add_right _ _
        exact I1.fpOk hle (I1.hok.fresh hle)
def YTwo (xs ys : Nat → Option V) : Nat → Hp → V → Hp → Prop := fun i H v H' => ∃ T x y, v = .ref T ∧ H T = none ∧ (∃ o : Obj, o.dict = none ∧ H' = upd H T (.frz o (.tup [x, y]))) ∧ xs i = some x ∧ ys i = some y
def YTri (xs ys zs : Nat → Option V) : Nat → Hp → V → Hp → Prop := fun i H v H' => ∃ T x y z, v = .ref T ∧ H T = none ∧ (∃ o : Obj, o.dict = none ∧ H' = upd H T (.frz o (.tup [x, y, z]))) ∧ xs i = some x ∧ ys i = some y ∧ zs i = some z
theorem walk_zip3 {K : PySem.W.Frag} {t u r : Bool} {a b c : Addr} {xs ys zs : List V} : Walk (Itz3 K t u r a b c) (min xs.length (min ys.length zs.length)) (fun H => Sq t K H a xs ∧ Sq u K H b ys ∧ Sq r K H c zs) (YTri (fun i => xs[i]?) (fun i => ys[i]?) (fun i => zs[i]?)) where
  goes := fun i H hi h => ⟨xs, ys, zs, xs[i], ys[i], zs[i], h.1, h.2.1, h.2.2, List.getElem?_eq_getElem (by omega), List.getElem?_eq_getElem (by omega), List.getElem?_eq_getElem (by omega)⟩
  stops := fun H h => ⟨xs, ys, zs, h.1, h.2.1, h.2.2, by omega, by omega, by omega, by omega⟩
  yields := fun i H x H' hi h y => by
    obtain ⟨T, x1, y1, z1, e1, e2, e3, e4, e5, e6⟩ := y
    exact ⟨T, x1, y1, z1, e1, e2, e3, e4 xs h.1, e5 ys h.2.1, e6 zs h.2.2⟩
/-! ### enumerate -/
def Ite2 (K : PySem.W.Frag) (t : Bool) (a : Addr) : It :=
  ⟨fun i H => ∃ (xs : List V) (x : V), Sq t K H a xs ∧ xs[i]? = some x, fun i H v H' => ∃ T x, v = .ref T ∧ H T = none ∧ (∃ o : Obj, o.dict = none ∧ H' = upd H T (.frz o (.tup [.int (i : Nat), x]))) ∧ ∀ xs, Sq t K H a xs → xs[i]? = some x, fun i H => ∃ xs : List V, Sq t K H a xs ∧ i = xs.length⟩
theorem turn_enum2 {P : Program} {w : World} {K : PySem.W.Frag} {elts : List Expr} {kk : Nat} {tpos : Pos} {t : Bool} (a e it : Addr) (hai : a ≠ it) (hae : a ≠ e) :
    Turn P w K (.Tuple elts kk tpos) (Ite2 K t a) [e, it] e (fun i h => (∃ old, IsEnum h e it ((i : Nat) : Int) old) ∧ ItS t h it a i ∧ e ≠ it) where
  mem := by simp
  obj := fun i h st b hb => by
    obtain ⟨⟨old, he⟩, hi, _⟩ := st
    have e' : b = e ∨ b = it := by simpa using hb
    rcases e' with rfl | rfl
    · exact ⟨_, he, fun v q => nomatch q⟩
    · exact hi.obj
  keep := fun i h h' st k => let ⟨⟨old, he⟩, hi, hne⟩ := st; ⟨⟨old, k e (by simp) _ he⟩, hi.keeps (k it (by simp)), hne⟩
  item := by
    intro X hP hw hK hc i pins s σ H E I hf st hg
    subst hP hw hK
    obtain ⟨⟨old, he⟩, hit, hne⟩ := st
    obtain ⟨xs, x, hq, hx⟩ := hg
    obtain ⟨its, rv, p, hz⟩ := sq_get I hq
    obtain ⟨u, hu, ru⟩ := rv.get hx
    have hel : e < s.heap.objs.size := Heap.lt_size he
    have hil : it < s.heap.objs.size := by obtain ⟨_, q, _⟩ := hit.obj; exact Heap.lt_size q
    have hh : X.A.in1.handled = none := I.ok.hd hc
    have l1 : i < its.toArray.size := by have := (List.getElem?_eq_some_iff.mp hu).1; simpa using this
    refine wpAny_pyNext_enum_itemD (draws hh t it a hai its.toArray) he ⟨hit, p⟩ l1 hne (by simp [hne, Ne.symm hae]) fun v h' tk e1 ho st1 hT hsz hk => ?_
    obtain rfl : v = u := by
      have q : its[i]? = some v := by simpa using e1
      rw [hu] at q; exact (Option.some.inj q).symm
    refine ⟨_, rfl, wpAny_letOwnedTupleGo_enum (s := { s with heap := h', toks := tk + 1 }) ho fun h'' he' sb => ?_⟩
    have hT2 : h''.get? s.heap.objs.size = some { cls := .type "tuple", data := .seq #[.int i tk, v] } := (sb.2 _ (Nat.ne_of_gt hel)).trans hT
    have new : ObjOk X.prog X.w (upd H s.heap.objs.size (.frz { cls := .type "tuple", data := .seq #[.int i tk, v] } (.tup [.int (i : Nat), x]))) h'' s.heap.objs.size (.frz { cls := .type "tuple", data := .seq #[.int i tk, v] } (.tup [.int (i : Nat), x])) :=
      ⟨hT2, by show 2 ≤ sizeLine; decide, [.int i tk, v], .cons ⟨_, rfl⟩ (.cons ru .nil), ⟨_, hT2, rfl, _, rfl⟩⟩
    have I1 : Inv X pins σ (upd H s.heap.objs.size (.frz { cls := .type "tuple", data := .seq #[.int i tk, v] } (.tup [.int (i : Nat), x]))) { s with heap := h'', toks := tk + 1 } :=
      I.turnedNew (ch := [e, it]) (fun b ob hb q => (sb.2 b (fun z => hb (by simp [z]))).trans (hk b ob (fun z => hb (by simp [z])) (fun z => hb (by simp [z])) q)) hf (Nat.le_refl _) new
    refine ⟨.ref s.heap.objs.size, _, I1, rfl, ⟨_, x, rfl, I.hok.fresh (Nat.le_refl _), ⟨_, rfl, rfl⟩, fun ys hy => by rw [sq_inj I hy hq]; exact hx⟩, ⟨⟨v, ?_⟩, st1.1.keeps fun o q => (sb.2 it (Ne.symm hne)).trans q, hne⟩, fun b hb => ?_⟩
    · have e1 : ((i + 1 : Nat) : Int) = (i : Int) + 1 := by omega
      rw [e1]; exact he'
    · have hb' : b < s.heap.objs.size := by
        have e' : b = e ∨ b = it := by simpa using hb
        rcases e' with rfl | rfl
        · exact hel
        · exact hil
      rw [upd_ne (Nat.ne_of_lt hb')]
      exact (hf b hb).1
  done := by
    intro X hP hw hK hc i pins s σ H E I hf st hg
    subst hP hw hK
    obtain ⟨⟨old, he⟩, hit, hne⟩ := st
    obtain ⟨xs, hq, hx⟩ := hg
    obtain ⟨its, rv, p, hz⟩ := sq_get I hq
    obtain ⟨f0, f1, f2, f3, f4, f5⟩ := hf it (by simp)
    have hl := rv.length
    have hh : X.A.in1.handled = none := I.ok.hd hc
    have e1 : i = its.toArray.size := by simp; omega
    subst e1
    exact wpAny_pyNext_enum_endD (draws hh t it a hai its.toArray) he ⟨hit, p⟩ fun h' eb => ⟨rfl, I.turned (t' := s.toks) (fun b o hb q => eb b o hb q) f0 f1 f3 f4 f5⟩
  self := fun A i s Q E st h => let ⟨⟨_, he⟩, _⟩ := st; wpAny_pyIter_enum he h
theorem meets_enum1 {v : Value} {o : Obj} {H : Heap → Prop} (B : Begins v o H) :
    Meets (Builtin.«enumerate.__new__» ⟨[.type "enumerate", v], []⟩) (fun _ R s => H s.heap ∧
      R (.ok (.ret (.ref (s.heap.push o).objs.size))) { s with heap := (s.heap.push o).push { cls := .type "enumerate", data := .fields #[.none, .bool false, .ref s.heap.objs.size, rawInt 0, .none, .none] } }) :=
  .of_wp fun prog w A R s h => by
    obtain ⟨hp, g, d, tk, os⟩ := s; obtain ⟨h1, h⟩ := h
    have hsub := sub_enumerate
    have q1 : ∀ {A' : Around} {E : Value → Shared → Prop} {Q : Value → Shared → Prop}, Q (.ref hp.objs.size) ⟨hp.push o, g, d, tk, os⟩ → wpAny (model prog w) A' (pyIter v) Q E ⟨hp, g, d, tk, os⟩ :=
      fun q => B.iter prog w _ _ ⟨hp, g, d, tk, os⟩ _ h1 q
    wp_walk using q1
    refine wpAny_stack_any fun st => wpAny_pure ?_
    split
    · rename_i c _ _ _ _ _
      cases (c == Value.type "enumerate")
      · wp_walk using q1
        exact ⟨_, rfl, h⟩
      · wp_walk using q1
        exact ⟨_, rfl, h⟩
    · wp_walk using q1
      exact ⟨_, rfl, h⟩
theorem enum_begins1 {prog : Program} {w : World} {A : Around} {E : Value → Shared → Prop} {s : Shared} {v : Value} {o : Obj} {H : Heap → Prop} {Q : Value → Shared → Prop} (B : Begins v o H) (h1 : H s.heap)
    (h : ∀ h', IsEnum h' (s.heap.objs.size + 1) s.heap.objs.size 0 .none → h'.get? s.heap.objs.size = some o → h'.objs.size = s.heap.objs.size + 2 →
      (∀ b o, s.heap.get? b = some o → h'.get? b = some o) → Q (.ref (s.heap.objs.size + 1)) { s with heap := h' }) :
    wpAny (model prog w) A (call (.type "enumerate") [v]) Q E s := by
  refine callType_new F.called_enumerate (by decide) (F.typeCall_enumerate_1 _) (F.newCall_enumerate_1 _) (fun obj => F.args_object_init_2 obj _) F.entry_enumerate_new
    (meets_enum1 B) ⟨h1, ?_⟩
  have hz : (s.heap.push o).objs.size = s.heap.objs.size + 1 := Heap.size_push ..
  show _ ∧ _
  rw [hz]
  have he : IsEnum ((s.heap.push o).push { cls := .type "enumerate", data := .fields #[.none, .bool false, .ref s.heap.objs.size, rawInt 0, .none, .none] }) (s.heap.objs.size + 1) s.heap.objs.size 0 .none := by
    have := Heap.get?_push_size (s.heap.push o) (o := { cls := .type "enumerate", data := .fields #[.none, .bool false, .ref s.heap.objs.size, rawInt 0, .none, .none] }) rfl
    rw [hz] at this; exact this
  refine ⟨⟨_, he, rfl⟩, h _ he (Heap.get?_push_of_some _ (Heap.get?_push_size _ B.free)) (by rw [Heap.size_push, hz]) fun b o x => Heap.get?_push_of_some _ (Heap.get?_push_of_some _ x)⟩
def iEnum2 (K : PySem.W.Frag) (ta : TA) : TI := fun σ H R => ta σ H fun vs H1 => ∃ t a xs, vs = [.ref a] ∧ Sq t K H1 a xs ∧ R (Ite2 K t a) H1
theorem pi_enum2 {X : Cx} {e : Expr} {ta : TA} {p pos tpos : Pos} {elts : List Expr} {kk : Nat} (hg : Gl X "enumerate") (hm : X.mg "enumerate" = none) (ha : PA X [e] ta) (hs : starEach [e] X.env = [(false, eval e X.env)]) :
    PI X (.Tuple elts kk tpos) (.Call (.Name "enumerate" p) [e] [] pos) (iEnum2 X.K ta) := by
  refine ⟨fun pins s σ H R I h => ?_⟩
  refine Call_ (ld_blt I hg hm boot_enumerate (PyProof.Rows.callWith_type1 (thn (ha.run pos pins s σ H _ I h) fun us s1 ⟨vs, H1, I1, r1, q1⟩ => ?_) hs rfl))
  obtain ⟨t, a, xs, ex, hq, q⟩ := q1
  subst ex
  cases r1 with
  | cons r rr =>
    cases rr
    cases r
    obtain ⟨its, rv, p', hz⟩ := sq_get I1 hq
    refine enum_begins1 (begins t a its.toArray) p' fun h' he hit hsz hk => wpAny_pyIter_enum he ?_
    have I2 : Inv X pins σ H1 { s1 with heap := h' } := I1.kept (t' := s1.toks) hk
    have la := p'.lt
    refine ⟨s1.heap.objs.size + 1, [s1.heap.objs.size + 1, s1.heap.objs.size], _, _, H1, rfl, I2, turn_enum2 a (s1.heap.objs.size + 1) s1.heap.objs.size (Nat.ne_of_lt la) (Nat.ne_of_lt (Nat.lt_succ_of_lt la)), ⟨⟨.none, he⟩, ItS.start hit, Nat.succ_ne_self _⟩, fun b hb => ?_, q⟩
    have hle : s1.heap.objs.size ≤ b := by
      have e' : b = s1.heap.objs.size + 1 ∨ b = s1.heap.objs.size := by simpa using hb
      rcases e' with z | z <;> rw [z] <;> first | exact Nat.le_refl _ | exact Nat.le_add_right _ _
    exact I1.fpOk hle (I1.hok.fresh hle)
/-! ### walks -/
theorem walk_zip2 {K : PySem.W.Frag} {t u : Bool} {a b : Addr} {xs ys : List V} : Walk (Itz2 K t u a b) (min xs.length ys.length) (fun H => Sq t K H a xs ∧ Sq u K H b ys) (YTwo (fun i => xs[i]?) (fun i => ys[i]?)) where
  goes := fun i H hi h => ⟨xs, ys, xs[i], ys[i], h.1, h.2, List.getElem?_eq_getElem (by omega), List.getElem?_eq_getElem (by omega)⟩
  stops := fun H h => ⟨xs, ys, h.1, h.2, by omega, by omega, by omega⟩
  yields := fun i H x H' hi h y => by
    obtain ⟨T, x1, y1, e1, e2, e3, e4, e5⟩ := y
    exact ⟨T, x1, y1, e1, e2, e3, e4 xs h.1, e5 ys h.2⟩
theorem walk_enum2 {K : PySem.W.Frag} {t : Bool} {a : Addr} {xs : List V} : Walk (Ite2 K t a) xs.length (fun H => Sq t K H a xs) (YTwo (fun i => some (.int (i : Nat))) (fun i => xs[i]?)) where
  goes := fun i H hi h => ⟨xs, xs[i], h, List.getElem?_eq_getElem hi⟩
  stops := fun H h => ⟨xs, h, rfl⟩
  yields := fun i H x H' hi h y => by
    obtain ⟨T, x1, e1, e2, e3, e4⟩ := y
    exact ⟨T, _, x1, e1, e2, e3, rfl, e4 xs h⟩
end DDZ

set_option Elab.async false
set_option linter.all false
set_option maxRecDepth 100000
set_option maxHeartbeats 2000000
namespace DDS
open PySem PySem.Spec PyProof.Rows L2 DD

/-- what a def's proof is about: the written part, the callees, the classes of exceptions, what is wished of one that leaves, the def's entry -/
structure Sg where
  K : PySem.W.Frag
  cl : CallT
  ca : Nat → Addr
  W : WX
  g0 : Gh
  H0 : Hp
def At (S : Sg) (σ : Sl) (H : Hp) (g : Gh) (st : Store) (env : Ev) : Prop := Step S.g0 S.H0 g H ∧ Wf S.K g H st ∧ ∃ ow, EnvR S.K g S.H0 H env σ ow
abbrev Rl (α β : Type) := Hp → Gh → Hp → α → β → Prop
/-- what a relation says of a start, it says of an earlier one -/
def Up {α β : Type} (rel : Rl α β) : Prop := ∀ H H1 g' H' d v, (∀ a, H1 a = none → H a = none) → rel H1 g' H' d v → rel H g' H' d v
def Post {α β : Type} (S : Sg) (σ : Sl) (g : Gh) (H : Hp) (r : R α) (rel : Rl α β) (Q : β → Hp → Prop) : Prop := match r with
  | .ok d st' => ∀ g' H' v, Step g H g' H' → Wf S.K g' H' st' → rel H g' H' d v → Q v H'
  | .exc c st' => ∀ g' H', Step g H g' H' → Wf S.K g' H' st' → S.W (.ref (S.ca c)) none σ H'
  | .bad => False
def rF (K : PySem.W.Frag) : Rl D V := fun _ g H d v => RV K g H d v
def rB (K : PySem.W.Frag) : Rl D V := fun _ g H d v => RB K g H d v
def rN (K : PySem.W.Frag) : Rl D V := fun H0 g H d v => RNew K H0 g H d v
def rFs (K : PySem.W.Frag) : Rl (List D) (List V) := fun _ g H d v => RVs K g H d v
def RBs (K : PySem.W.Frag) (g : Gh) (H : Hp) : List D → List V → Prop
  | [], vs => vs = []
  | d :: ds, vs => ∃ v ws, vs = v :: ws ∧ RB K g H d v ∧ RBs K g H ds ws
def rBs (K : PySem.W.Frag) : Rl (List D) (List V) := fun _ g H d v => RBs K g H d v
def rT : Rl Bool Bool := fun _ _ _ a b => a = b
theorem up_F {K : PySem.W.Frag} : Up (rF K) := fun _ _ _ _ _ _ _ h => h
theorem up_B {K : PySem.W.Frag} : Up (rB K) := fun _ _ _ _ _ _ _ h => h
theorem up_Fs {K : PySem.W.Frag} : Up (rFs K) := fun _ _ _ _ _ _ _ h => h
theorem up_Bs {K : PySem.W.Frag} : Up (rBs K) := fun _ _ _ _ _ _ _ h => h
theorem up_T : Up rT := fun _ _ _ _ _ _ _ h => h
theorem up_N {K : PySem.W.Frag} : Up (rN K) := fun H H1 g' H' d v hl h => by
  cases d with
  | lst ds => obtain ⟨a, vs, h1, h2, h3, h4, h5, h6⟩ := h; exact ⟨a, vs, h1, h2, h3, h4, h5, hl a h6⟩
  | dic ks us => obtain ⟨a, vs, h1, h2, h3, h4, h5, h6⟩ := h; exact ⟨a, vs, h1, h2, h3, h4, h5, hl a h6⟩
  | _ => exact h
section
variable {S : Sg} {σ : Sl} {g g1 : Gh} {H H1 : Hp} {st : Store} {env : Ev} {α β γ δ : Type}
theorem At.step (a : At S σ H g st env) {st1 : Store} (s : Step g H g1 H1) (w : Wf S.K g1 H1 st1) : At S σ H1 g1 st1 env := by
  obtain ⟨h1, h2, ow, h3⟩ := a
  exact ⟨h1.trans s, w, ow, h3.step h2 s⟩
theorem Post.step {r : R α} {rel : Rl α β} {Q : β → Hp → Prop} (up : Up rel) (s : Step g H g1 H1) (h : Post S σ g H r rel Q) : Post S σ g1 H1 r rel Q := by
  cases r with
  | ok d st' => exact fun g' H' v s' w' q => h g' H' v (s.trans s') w' (up H H1 g' H' d v (fun a e => s.live e) q)
  | exc c st' => exact fun g' H' s' w' => h g' H' (s.trans s') w'
  | bad => exact h
/-- what comes next, at the place where the first part has come to -/
theorem Post.bind {r : R α} {f : α → Store → R γ} {rel : Rl γ δ} {rel1 : Rl α β} {Q : δ → Hp → Prop} (up : Up rel) (h : Post S σ g H (r.bind f) rel Q) :
    Post S σ g H r rel1 fun x H1 => ∃ g1 st1 d, Step g H g1 H1 ∧ Wf S.K g1 H1 st1 ∧ rel1 H g1 H1 d x ∧ Post S σ g1 H1 (f d st1) rel Q := by
  cases r with
  | ok d st' => exact fun g' H' v s' w' q => ⟨g', st', d, s', w', q, Post.step (r := f d st') up s' h⟩
  | exc c st' => exact h
  | bad => exact h
theorem Post.mono {r : R α} {rel rel' : Rl α β} {Q Q' : β → Hp → Prop} (h : Post S σ g H r rel Q) (hq : ∀ g' H' d v st', Step g H g' H' → Wf S.K g' H' st' → rel' H g' H' d v → (∀ g'' H'' v', Step g H g'' H'' → Wf S.K g'' H'' st' → rel H g'' H'' d v' → Q v' H'') → Q' v H') : Post S σ g H r rel' Q' := by
  cases r with
  | ok d st' => exact fun g' H' v s' w' q => hq g' H' d v st' s' w' q h
  | exc c st' => exact h
  | bad => exact h
theorem Post.gives {o : Option D} {Q : VK} (h : Post S σ g H (R.of o st) (rN S.K) Q) : Gives S.K g H st o Q := by
  cases o with
  | none => exact h.elim
  | some d => exact ⟨d, rfl, h⟩
end
/-- an expression's reading -/
def tE (S : Sg) (rel : Rl D V) (e : E) : TE := fun σ H Q => ∃ g st env, At S σ H g st env ∧ Post S σ g H (evE S.cl e env st) rel Q
def tEs (S : Sg) (rel : Rl (List D) (List V)) (es : List E) : TA := fun σ H Q => ∃ g st env, At S σ H g st env ∧ Post S σ g H (evEs S.cl es env st) rel Q
/-- a test's reading -/
def tT (S : Sg) (e : E) : TT := fun σ H Q => ∃ g st env, At S σ H g st env ∧ Post S σ g H (tested (evE S.cl e env st)) rT Q
theorem _root_.L2.PE.mono {X : Cx} {e : Expr} {t t' : TE} (h : PE X e t) (m : ∀ σ H Q, t' σ H Q → t σ H Q) : PE X e t' := ⟨fun pins s σ H Q I q => h.run pins s σ H Q I (m σ H Q q)⟩
theorem _root_.L2.PT.mono {X : Cx} {e : Expr} {t t' : TT} (h : PT X e t) (m : ∀ σ H Q, t' σ H Q → t σ H Q) : PT X e t' := ⟨fun pins s σ H Q I q => h.run pins s σ H Q I (m σ H Q q)⟩
theorem _root_.L2.PA.mono {X : Cx} {e : List Expr} {t t' : TA} (h : PA X e t) (m : ∀ σ H Q, t' σ H Q → t σ H Q) : PA X e t' := ⟨fun p pins s σ H Q I q => h.run p pins s σ H Q I (m σ H Q q)⟩

/-! ### freezing -/
section
variable {K : PySem.W.Frag} {g : Gh} {H : Hp} {st : Store} {os : List Addr}
abbrev Gh.more (g : Gh) (os : List Addr) : Gh := ⟨fun a => g.F a ∨ a ∈ os, g.ks⟩
theorem Stp.more : Stp g H (g.more os) H := ⟨fun _ h => .inl h, List.prefix_rfl, fun _ _ _ h => h, fun _ _ h _ => h, fun _ o h => ⟨o, h⟩⟩
theorem Wf.more (w : Wf K g H st) (hl : ∀ a ∈ os, ∃ o, H a = some o) (hk : ∀ a ∈ os, a ∉ g.ks) : Wf K (g.more os) H st where
  len := w.len
  nd := w.nd
  cell := fun k c a e1 e2 => (w.cell k c a e1 e2).stp Stp.more fun _ e => e
  nF := fun a ha z => by
    rcases z with z | z
    · exact w.nF a ha z
    · exact hk a z ha
  lv := fun a z => by
    rcases z with z | z
    · exact w.lv a z
    · exact hl a z
theorem Step.more {gs : Gh} {Hs : Hp} (s : Step gs Hs g H) (hn : ∀ a ∈ os, Hs a = none) : Step gs Hs (g.more os) H where
  F := fun a h => .inl (s.F a h)
  ks := s.ks
  kp := s.kp
  lv := s.lv
  nF := fun a z => by
    rcases z with z | z
    · exact s.nF a z
    · exact .inr (hn a z)
  nk := s.nk
/-- a new value is frozen -/
theorem RNew.frz {H0 : Hp} {gs : Gh} {Hs : Hp} {d : D} {v : V} (r : RNew K Hs g H d v) (w : Wf K g H st) (s : Step gs Hs g H) : ∃ g', Step gs Hs g' H ∧ Wf K g' H st ∧ RV K g' H d v := by
  cases d with
  | lst ds =>
    obtain ⟨a, vs, h1, h2, h3, h4, h5, h6⟩ := r
    refine ⟨g.more [a], s.more (by simpa using h6), w.more (by simpa using ⟨_, h2⟩) (by simpa using h5), a, vs, h1, .inr (by simp), h2, h3.stp Stp.more⟩
  | dic ks us =>
    obtain ⟨a, kvs, h1, h2, h3, h4, h5, h6⟩ := r
    refine ⟨g.more [a], s.more (by simpa using h6), w.more (by simpa using ⟨_, h2⟩) (by simpa using h5), a, kvs, h1, .inr (by simp), h2, h3.1, h3.2.stp Stp.more⟩
  | _ => exact ⟨g, s, w, r⟩
mutual
theorem RW.frz : ∀ {x : W} {v : V} {os ps : List Addr}, (∀ a ∈ os, a ∈ ps) → RW K g H x v os → RV K (g.more ps) H x.d v
  | .no, _, _, _, _, h => h.elim
  | .fz d, _, _, _, _, h => h.1.stp Stp.more
  | .own ds, _, _, _, hs, h => by
    obtain ⟨a, vs, rfl, h1, h2, rfl⟩ := h
    exact ⟨a, vs, rfl, .inr (hs a (by simp)), h1, h2.stp Stp.more⟩
  | .ownD ks us, _, _, _, hs, h => by
    obtain ⟨a, vs, rfl, h1, h2, h3, rfl⟩ := h
    exact ⟨a, vs, rfl, .inr (hs a (by simp)), h1, h2, h3.stp Stp.more⟩
  | .lw ws, _, _, _, hs, h => by
    obtain ⟨a, vs, os', rfl, h1, h2, rfl⟩ := h
    exact ⟨a, vs, rfl, .inr (hs a (by simp)), h1, RWs.frz (fun b hb => hs b (by simp [hb])) h2⟩
  | .tw ws, _, _, _, hs, h => by
    obtain ⟨a, vs, rfl, h1, h2⟩ := h
    exact ⟨a, vs, rfl, .inl h1, RWs.frz hs h2⟩
theorem RWs.frz : ∀ {ws : List W} {vs : List V} {os ps : List Addr}, (∀ a ∈ os, a ∈ ps) → RWs K g H ws vs os → RVs K (g.more ps) H (W.ds ws) vs
  | [], _, _, _, _, h => h.1
  | x :: ws, _, _, _, hs, h => by
    obtain ⟨v, vs', o1, o2, rfl, h1, h2, rfl⟩ := h
    exact ⟨v, vs', rfl, RW.frz (fun b hb => hs b (by simp [hb])) h1, RWs.frz (fun b hb => hs b (by simp [hb])) h2⟩
end
end
/-- new is as good as frozen, frozen as good as lent -/
theorem tE_FN {S : Sg} {e : E} {σ : Sl} {H : Hp} {Q : VK} (h : tE S (rF S.K) e σ H Q) : tE S (rN S.K) e σ H Q := by
  obtain ⟨g, st, env, a, h⟩ := h
  refine ⟨g, st, env, a, h.mono fun g' H' d v st' s w r k => ?_⟩
  obtain ⟨g2, s2, w2, r2⟩ := RNew.frz (H0 := H) r w s
  exact k g2 H' v s2 w2 r2
theorem tE_BF {S : Sg} {e : E} {σ : Sl} {H : Hp} {Q : VK} (h : tE S (rB S.K) e σ H Q) : tE S (rF S.K) e σ H Q := by
  obtain ⟨g, st, env, a, h⟩ := h
  refine ⟨g, st, env, a, h.mono fun g' H' d v st' s w r k => k g' H' v s w (RV.rb w r)⟩
section
variable {X : Cx} {S : Sg}
theorem _root_.L2.PE.toF {pe : Expr} {e : E} (h : PE X pe (tE S (rN S.K) e)) : PE X pe (tE S (rF S.K) e) := h.mono fun _ _ _ => tE_FN
theorem _root_.L2.PE.toB {pe : Expr} {e : E} (h : PE X pe (tE S (rF S.K) e)) : PE X pe (tE S (rB S.K) e) := h.mono fun _ _ _ => tE_BF
end
/-! ### one, two, three parts -/
section
variable {S : Sg} {σ : Sl} {g : Gh} {H : Hp} {st : Store} {env : Ev} {γ δ : Type} {rel : Rl γ δ} {Q : δ → Hp → Prop}
theorem lem1 {a : E} {rel1 : Rl D V} {f : D → Store → R γ} (at_ : At S σ H g st env) (up : Up rel) (h : Post S σ g H ((evE S.cl a env st).bind f) rel Q) :
    tE S rel1 a σ H fun x H1 => ∃ g st d, At S σ H1 g st env ∧ rel1 H g H1 d x ∧ Post S σ g H1 (f d st) rel Q := by
  refine ⟨g, st, env, at_, (h.bind (rel1 := rel1) up).mono fun g' H' d v st' s w r k => ?_⟩
  obtain ⟨g1, st1, d1, s1, w1, r1, h1⟩ := k g' H' v s w r
  exact ⟨g1, st1, d1, at_.step s1 w1, r1, h1⟩
theorem lem2 {a b : E} {f : D → D → Store → R γ} (at_ : At S σ H g st env) (up : Up rel) (h : Post S σ g H ((evE S.cl a env st).bind fun x st => (evE S.cl b env st).bind fun y st => f x y st) rel Q) :
    tE S (rB S.K) a σ H fun x H1 => tE S (rB S.K) b σ H1 fun y H2 => ∃ g st d1 d2, At S σ H2 g st env ∧ RB S.K g H2 d1 x ∧ RB S.K g H2 d2 y ∧ Post S σ g H2 (f d1 d2 st) rel Q := by
  obtain ⟨g0, st0, env0, a0, h0⟩ := lem1 (rel1 := rB S.K) at_ up h
  refine ⟨g0, st0, env0, a0, h0.mono fun g' H' d v st' s w r k => ?_⟩
  obtain ⟨g1, st1, d1, a1, r1, h1⟩ := k g' H' v s w r
  refine ⟨g1, st1, env, a1, (h1.bind (rel1 := rB S.K) up).mono fun g'' H'' d' v' st'' s' w' r' k' => ?_⟩
  obtain ⟨g2, st2, d2, s2, w2, r2, h2⟩ := k' g'' H'' v' s' w' r'
  exact ⟨g2, st2, d1, d2, a1.step s2 w2, RB.step a1.2.1 s2 r1, r2, h2⟩
theorem lem3 {a b c : E} {f : D → D → D → Store → R γ} (at_ : At S σ H g st env) (up : Up rel) (h : Post S σ g H ((evE S.cl a env st).bind fun x st => (evE S.cl b env st).bind fun y st => (evE S.cl c env st).bind fun z st => f x y z st) rel Q) :
    tE S (rB S.K) a σ H fun x H1 => tE S (rB S.K) b σ H1 fun y H2 => tE S (rB S.K) c σ H2 fun z H3 => ∃ g st d1 d2 d3, At S σ H3 g st env ∧ RB S.K g H3 d1 x ∧ RB S.K g H3 d2 y ∧ RB S.K g H3 d3 z ∧ Post S σ g H3 (f d1 d2 d3 st) rel Q := by
  obtain ⟨g0, st0, env0, a0, h0⟩ := lem2 at_ up h
  refine ⟨g0, st0, env0, a0, h0.mono fun g' H' d v st' s w r k => ?_⟩
  obtain ⟨g1, st1, e1, a1, h1⟩ := k g' H' v s w r
  refine ⟨g1, st1, e1, a1, h1.mono fun g'' H'' d' v' st'' s' w' r' k' => ?_⟩
  obtain ⟨g2, st2, d1, d2, a2, r1, r2, h2⟩ := k' g'' H'' v' s' w' r'
  refine ⟨g2, st2, env, a2, (h2.bind (rel1 := rB S.K) up).mono fun g3 H3 d3 v3 st3 s3 w3 r3 k3 => ?_⟩
  obtain ⟨g4, st4, d4, s4, w4, r4, h4⟩ := k3 g3 H3 v3 s3 w3 r3
  exact ⟨g4, st4, d1, d2, d4, a2.step s4 w4, RB.step a2.2.1 s4 r1, RB.step a2.2.1 s4 r2, r4, h4⟩
end
end DDS

set_option Elab.async false
set_option linter.all false
set_option maxRecDepth 100000
set_option maxHeartbeats 2000000
namespace DDS
open PySem PySem.Spec PyProof.Rows L2 DD
theorem tE_imp {S : Sg} {rel : Rl D V} {e : E} {σ : Sl} {H : Hp} {Q Q' : VK} (h : tE S rel e σ H Q) (hq : ∀ v H', Q v H' → Q' v H') : tE S rel e σ H Q' := by
  obtain ⟨g, st, env, a, h⟩ := h
  exact ⟨g, st, env, a, h.mono fun g' H' d v st' s w r k => hq v H' (k g' H' v s w r)⟩
theorem tEs_imp {S : Sg} {rel : Rl (List D) (List V)} {e : List E} {σ : Sl} {H : Hp} {Q Q' : List V → Hp → Prop} (h : tEs S rel e σ H Q) (hq : ∀ v H', Q v H' → Q' v H') : tEs S rel e σ H Q' := by
  obtain ⟨g, st, env, a, h⟩ := h
  exact ⟨g, st, env, a, h.mono fun g' H' d v st' s w r k => hq v H' (k g' H' v s w r)⟩
def bopP : Bop → Operator
  | .add => .Add
  | .sub => .Sub
  | .mul => .Mult
  | .fdiv => .FloorDiv
  | .mod => .Mod
  | .pow => .Pow
def copP : Cop → CmpOp
  | .eq => .Eq
  | .ne => .NotEq
  | .lt => .Lt
  | .le => .LtE
  | .gt => .Gt
  | .ge => .GtE
  | .isin => .In
  | .notin => .NotIn
theorem op_bin {X : Cx} (o : Bop) : OpR X (binaryOp (bopP o)) (rBin X.K o) := by
  cases o
  · exact op_bin_add
  · exact op_bin_sub
  · exact op_bin_mul
  · exact op_bin_fdiv
  · exact op_bin_mod
  · exact op_bin_pow
/-! ### in -/
theorem any_eqD {x : D} {n m : Nat} (hx : shal n x = true) : ∀ {xs : List D}, (∀ y ∈ xs, shal m y = true) → xs.any (eqD · x) = (toPs xs).any fun z => PyData.eqv z (toP x)
  | [], _ => rfl
  | y :: ys, h => by
    simp only [List.any_cons, toPs]
    rw [eqD_eqv (h y (by simp)) hx, any_eqD hx fun z hz => h z (by simp [hz])]
theorem toPs_shaped {xs : List D} (h : ∀ y ∈ xs, shal 12 y = true) : PyData.canLayAll0 (toPs xs) = true := (shals_lay h).1
theorem op_cmp_in {X : Cx} (hu : X.A.units + 65 < cLine) : OpR X (compareOp .In) (rCmp X.K .isin) := by
  intro pins s σ H x y v u Q I rx ry h
  obtain ⟨g, st, d1, d2, b, w, h1, h2, e, q⟩ := h
  have e' : isIn d1 d2 = some b := by rw [← e]; cases d1 <;> cases d2 <;> rfl
  cases d2 <;> try cases e'
  · rename_i z
    cases d1 <;> try cases e'
    rename_i y'
    simp only [isIn] at e'
    split at e'
    · rename_i c ec
      cases e'
      cases h1; cases h2
      have ey : y' = ⟨#[c]⟩ := by
        obtain ⟨a⟩ := y'
        congr 1
        exact Array.toList_inj.mp ec
      subst ey
      exact op_in_sign pins s σ H _ _ v u Q I rx ry ⟨c, z, rfl, rfl, q⟩
    · cases e'
  · rename_i xs
    simp only [isIn] at e'
    split at e'
    case isFalse => cases e'
    rename_i hs
    rw [Bool.and_eq_true, List.all_eq_true] at hs
    cases e'
    rw [any_eqD hs.1 hs.2] at q
    obtain ⟨as, r1⟩ := Dp.reads I _ x v (h1.dp hs.1) rx
    obtain ⟨bs, r2⟩ := Dp.reads I _ y u (h2.dp (n := 13) (by simpa [shal] using hs.2)) ry
    exact SeqAt.in_tuple_reads r2 r1 (toPs_shaped hs.2) (SeqAt.canLay_of_shaped (shal_shaped hs.1 (by decide))) (room_in_shaped (shal_shaped hs.1 (by decide)) hu) ⟨.bl _, H, I, rfl, q⟩
  · rename_i xs
    simp only [isIn] at e'
    split at e'
    case isFalse => cases e'
    rename_i hs
    rw [Bool.and_eq_true, List.all_eq_true] at hs
    cases e'
    rw [any_eqD hs.1 hs.2] at q
    obtain ⟨as, r1⟩ := Dp.reads I _ x v (h1.dp hs.1) rx
    obtain ⟨bs, r2⟩ := Dp.reads I _ y u (h2.dp (n := 13) (by simpa [shal] using hs.2)) ry
    exact SeqAt.in_list_reads r2 r1 (toPs_shaped hs.2) (SeqAt.canLay_of_shaped (shal_shaped hs.1 (by decide))) (room_in_shaped (shal_shaped hs.1 (by decide)) hu) ⟨.bl _, H, I, rfl, q⟩
theorem op_cmp_notin {X : Cx} (hu : X.A.units + 65 < cLine) : OpR X (compareOp .NotIn) (rCmp X.K .notin) := by
  intro pins s σ H x y v u Q I rx ry h
  obtain ⟨g, st, d1, d2, b, w, h1, h2, e, q⟩ := h
  have e' : (isIn d1 d2).map (!·) = some b := by rw [← e]; cases d1 <;> cases d2 <;> rfl
  cases d2 <;> try cases e'
  · rename_i z
    cases d1 <;> try cases e'
    rename_i y'
    simp only [isIn] at e'
    split at e'
    · rename_i c ec
      cases e'
      cases h1; cases h2
      have ey : y' = ⟨#[c]⟩ := by
        obtain ⟨a⟩ := y'
        congr 1
        exact Array.toList_inj.mp ec
      subst ey
      exact op_notIn_sign pins s σ H _ _ v u Q I rx ry ⟨c, z, rfl, rfl, q⟩
    · cases e'
  · rename_i xs
    simp only [isIn] at e'
    split at e'
    case isFalse => cases e'
    rename_i hs
    rw [Bool.and_eq_true, List.all_eq_true] at hs
    cases e'
    rw [any_eqD hs.1 hs.2] at q
    obtain ⟨as, r1⟩ := Dp.reads I _ x v (h1.dp hs.1) rx
    obtain ⟨bs, r2⟩ := Dp.reads I _ y u (h2.dp (n := 13) (by simpa [shal] using hs.2)) ry
    exact SeqAt.notIn_tuple_reads r2 r1 (toPs_shaped hs.2) (SeqAt.canLay_of_shaped (shal_shaped hs.1 (by decide))) (room_in_shaped (shal_shaped hs.1 (by decide)) hu) ⟨.bl _, H, I, rfl, q⟩
  · rename_i xs
    simp only [isIn] at e'
    split at e'
    case isFalse => cases e'
    rename_i hs
    rw [Bool.and_eq_true, List.all_eq_true] at hs
    cases e'
    rw [any_eqD hs.1 hs.2] at q
    obtain ⟨as, r1⟩ := Dp.reads I _ x v (h1.dp hs.1) rx
    obtain ⟨bs, r2⟩ := Dp.reads I _ y u (h2.dp (n := 13) (by simpa [shal] using hs.2)) ry
    exact SeqAt.notIn_list_reads r2 r1 (toPs_shaped hs.2) (SeqAt.canLay_of_shaped (shal_shaped hs.1 (by decide))) (room_in_shaped (shal_shaped hs.1 (by decide)) hu) ⟨.bl _, H, I, rfl, q⟩
theorem op_cmp {X : Cx} (hu : X.A.units + 65 < cLine) (o : Cop) : OpR X (compareOp (copP o)) (rCmp X.K o) := by
  cases o
  · exact op_cmp_eq hu
  · exact op_cmp_ne hu
  · exact op_cmp_lt (by omega)
  · exact op_cmp_le
  · exact op_cmp_gt
  · exact op_cmp_ge
  · exact op_cmp_in hu
  · exact op_cmp_notin hu
theorem Gives.ofSome {K : PySem.W.Frag} {g : Gh} {H : Hp} {st : Store} {d : D} {Q : VK} {v : V} (h : Gives K g H st (some d) Q) (w : Wf K g H st) (f : flat1 d = true) (r : RV K g H d v) : Q v H := h.flat w f r
section
variable {X : Cx} {S : Sg} {pos : Pos}
abbrev tB (S : Sg) (e : E) : TE := tE S (rB S.K) e
abbrev tF (S : Sg) (e : E) : TE := tE S (rF S.K) e
abbrev tN (S : Sg) (e : E) : TE := tE S (rN S.K) e
theorem e_var {i : Nat} {x : Str} (hN : X.N[i]? = some x) (hv : Vis X.env.scope x) (hd : (x == ("__debug__" : Str)) = false) (hcd : (x == ("__classdict__" : Str)) = false) : PE X (.Name x pos) (tF S (.var i)) := by
  refine (pe_var hN hv hd hcd).mono fun σ H Q h => ?_
  obtain ⟨g, st, env, ⟨s0, w, ow, r⟩, h⟩ := h
  rcases e : env[i]? with _ | x
  · simp only [evE, e] at h; exact h.elim
  · cases x with
    | fz d =>
      simp only [evE, e] at h
      rcases r.sl i _ e with z | ⟨v, e1, z⟩
      · cases z.1
      · exact ⟨v, e1, h g H v (Step.refl _ _) w z.1⟩
    | _ => simp only [evE, e] at h; exact h.elim
theorem e_varB {i : Nat} {x : Str} (hN : X.N[i]? = some x) (hv : Vis X.env.scope x) (hd : (x == ("__debug__" : Str)) = false) (hcd : (x == ("__classdict__" : Str)) = false) : PE X (.Name x pos) (tB S (.varB i)) := by
  refine (pe_var hN hv hd hcd).mono fun σ H Q h => ?_
  obtain ⟨g, st, env, ⟨s0, w, ow, r⟩, h⟩ := h
  rcases e : env[i]? with _ | x
  · simp only [evE, e] at h; exact h.elim
  · rcases r.sl i _ e with z | ⟨v, e1, z⟩
    · rw [z.1] at e
      simp only [evE, e] at h; exact h.elim
    · refine ⟨v, e1, ?_⟩
      cases x with
      | fz d =>
        simp only [evE, e] at h
        exact h g H v (Step.refl _ _) w (RV.rb w z.1)
      | own ds =>
        simp only [evE, e] at h
        obtain ⟨a, vs, rfl, h1, h2, h3⟩ := z
        exact h g H _ (Step.refl _ _) w ⟨a, vs, rfl, (r.own i a (by rw [h3]; simp)).2.1, h1, h2⟩
      | ownD ks us =>
        simp only [evE, e] at h
        obtain ⟨a, vs, rfl, h1, h2, h3, h4⟩ := z
        exact h g H _ (Step.refl _ _) w ⟨a, vs, rfl, (r.own i a (by rw [h4]; simp)).2.1, h1, h2, h3⟩
      | _ => simp only [evE, e] at h; exact h.elim
theorem e_cst {c : Const} {k : Nat} {d : D} {v : V} (h : PE X (.Constant c k pos) (tC v)) (hr : ∀ g H, RV S.K g H d v) : PE X (.Constant c k pos) (tF S (.cst d)) :=
  h.mono fun σ H Q ⟨g, st, env, at_, h⟩ => h g H v (Step.refl _ _) at_.2.1 (hr g H)
theorem e_glo {x : Str} {d : D} {v : V} {u : Value} (hg : Gl X x) (hm : X.mg x = some u) (r : RelV v u) (hd : (x == ("__debug__" : Str)) = false) (hr : ∀ g H, RV S.K g H d v) : PE X (.Name x pos) (tF S (.glo x d)) :=
  (pe_glob hg hm r hd).mono fun σ H Q ⟨g, st, env, at_, h⟩ => h g H v (Step.refl _ _) at_.2.1 (hr g H)
variable {pa pb pc : Expr} {a b c : E}
theorem e_bin (hK : X.K = S.K) {o : Bop} (ha : PE X pa (tB S a)) (hb : PE X pb (tB S b)) : PE X (.BinOp pa (bopP o) pb pos) (tN S (.bin o a b)) := by
  refine (pe_op (op_bin o) ha hb).mono fun σ H Q ⟨g, st, env, at_, h⟩ => ?_
  rw [hK]
  refine tE_imp (lem2 (f := fun x y st => .of (binop o x y) st) at_ up_N h) fun x H1 h1 => tE_imp h1 fun y H2 ⟨g, st, d1, d2, a2, r1, r2, h2⟩ => ?_
  exact ⟨g, st, d1, d2, a2.2.1, r1, r2, h2.gives⟩
theorem e_cmp (hK : X.K = S.K) (hu : X.A.units + 65 < cLine) {o : Cop} (ha : PE X pa (tB S a)) (hb : PE X pb (tB S b)) (hm : behindInMarks (copP o) pb = false) : PE X (.Compare pa [copP o] [pb] pos) (tF S (.cmp o a b)) := by
  refine (pe_cmpR (op_cmp hu o) ha hb hm).mono fun σ H Q ⟨g, st, env, at_, h⟩ => ?_
  rw [hK]
  refine tE_imp (lem2 (a := a) (b := b) (f := fun x y st => R.of ((cmpop o x y).map D.bool) st) at_ up_F h) fun x H1 h1 => tE_imp h1 fun y H2 ⟨g, st, d1, d2, a2, r1, r2, h2⟩ => ?_
  cases e : cmpop o d1 d2 with
  | none => rw [e] at h2; exact h2.elim
  | some k => rw [e] at h2; exact ⟨g, st, d1, d2, k, a2.2.1, r1, r2, e, h2 g H2 _ (Step.refl _ _) a2.2.1 rfl⟩
theorem t_cmp (hK : X.K = S.K) (hu : X.A.units + 65 < cLine) {o : Cop} (ha : PE X pa (tB S a)) (hb : PE X pb (tB S b)) (hm : behindInMarks (copP o) pb = false) : PT X (.Compare pa [copP o] [pb] pos) (tT S (.cmp o a b)) := by
  refine (pt_cmpR (op_cmp hu o) ha hb hm).mono fun σ H Q ⟨g, st, env, at_, h⟩ => ?_
  rw [hK]
  have h' : Post S σ g H ((evE S.cl a env st).bind fun x st => (evE S.cl b env st).bind fun y st => .of (cmpop o x y) st) rT Q := by
    have e : tested (evE S.cl (.cmp o a b) env st) = ((evE S.cl a env st).bind fun x st => (evE S.cl b env st).bind fun y st => .of (cmpop o x y) st) := by
      simp only [evE, tested]
      cases evE S.cl a env st with
      | ok d st => 
        simp only [R.bind_ok]
        cases evE S.cl b env st with
        | ok d2 st =>
          simp only [R.bind_ok]
          cases cmpop o d d2 <;> rfl
        | exc c st => rfl
        | bad => rfl
      | exc c st => rfl
      | bad => rfl
    rw [← e]; exact h
  refine tE_imp (lem2 (f := fun x y st => .of (cmpop o x y) st) at_ up_T h') fun x H1 h1 => tE_imp h1 fun y H2 ⟨g, st, d1, d2, a2, r1, r2, h2⟩ => ?_
  cases e : cmpop o d1 d2 with
  | none => rw [e] at h2; exact h2.elim
  | some k => rw [e] at h2; exact ⟨g, st, d1, d2, k, a2.2.1, r1, r2, e, k, rfl, h2 g H2 _ (Step.refl _ _) a2.2.1 rfl⟩
/-- a value that is a bool, as a test -/
theorem t_val (he : PE X pa (tF S a)) (hp : ∀ whole, isTrue pa X.env whole = (do let v ← whole; standAt pa.pos; holding [v] (truthy v))) : PT X pa (tT S a) := by
  refine (pt_val he hp).mono fun σ H Q ⟨g, st, env, at_, h⟩ => ?_
  refine ⟨g, st, env, at_, (Post.bind (rel1 := rF S.K) up_T h).mono fun g' H' d v st' s w r k => ?_⟩
  obtain ⟨g1, st1, d1, s1, w1, r1, h1⟩ := k g' H' v s w r
  cases d1 with
  | bool q => cases r1; exact ⟨q, rfl, h1 g1 H' q (Step.refl _ _) w1 rfl⟩
  | _ => exact h1.elim
theorem e_neg (ha : PE X pa (tF S a)) : PE X (.UnaryOp .USub pa pos) (tF S (.neg a)) := by
  refine (pe_un un_neg ha).mono fun σ H Q ⟨g, st, env, at_, h⟩ => ?_
  refine tE_imp (lem1 (rel1 := rF S.K) at_ up_F h) fun x H1 ⟨g, st, d, a1, r, h1⟩ => ?_
  cases d with
  | int i => cases r; exact ⟨i, rfl, h1 g H1 _ (Step.refl _ _) a1.2.1 rfl⟩
  | _ => exact h1.elim
theorem e_not (ha : PE X pa (tF S a)) : PE X (.UnaryOp .Not pa pos) (tF S (.not a)) := by
  refine (pe_not ha).mono fun σ H Q ⟨g, st, env, at_, h⟩ => ?_
  refine tE_imp (lem1 (rel1 := rF S.K) at_ up_F h) fun x H1 ⟨g, st, d, a1, r, h1⟩ => ?_
  cases d with
  | bool i => cases r; exact ⟨i, rfl, h1 g H1 _ (Step.refl _ _) a1.2.1 rfl⟩
  | _ => exact h1.elim
theorem e_and {rest : List Expr} (ha : PE X pa (tF S a)) (hb : PE X (.BoolOp .And (pb :: rest) pos) (tF S b)) : PE X (.BoolOp .And (pa :: pb :: rest) pos) (tF S (.and a b)) := by
  refine (pe_and ha hb).mono fun σ H Q ⟨g, st, env, at_, h⟩ => ?_
  refine tE_imp (lem1 (rel1 := rF S.K) at_ up_F h) fun x H1 ⟨g, st, d, a1, r, h1⟩ => ?_
  cases d with
  | bool i =>
    cases r
    refine ⟨i, rfl, ?_⟩
    cases i with
    | true => rw [if_pos rfl]; exact ⟨g, st, env, a1, h1⟩
    | false => rw [if_neg Bool.false_ne_true]; exact h1 g H1 _ (Step.refl _ _) a1.2.1 rfl
  | _ => exact h1.elim
theorem e_or {rest : List Expr} (ha : PE X pa (tF S a)) (hb : PE X (.BoolOp .Or (pb :: rest) pos) (tF S b)) : PE X (.BoolOp .Or (pa :: pb :: rest) pos) (tF S (.or a b)) := by
  refine (pe_or ha hb).mono fun σ H Q ⟨g, st, env, at_, h⟩ => ?_
  refine tE_imp (lem1 (rel1 := rF S.K) at_ up_F h) fun x H1 ⟨g, st, d, a1, r, h1⟩ => ?_
  cases d with
  | bool i =>
    cases r
    refine ⟨i, rfl, ?_⟩
    cases i with
    | true => rw [if_pos rfl]; exact h1 g H1 _ (Step.refl _ _) a1.2.1 rfl
    | false => rw [if_neg Bool.false_ne_true]; exact ⟨g, st, env, a1, h1⟩
  | _ => exact h1.elim
theorem tested_not (r : R D) : tested (r.bind fun x st => match x with | .bool b => R.ok (.bool (!b)) st | _ => .bad) = (tested r).bind fun b st => R.ok (!b) st := by
  cases r with
  | ok d st => cases d <;> rfl
  | exc c st => rfl
  | bad => rfl
theorem tT_imp {e : E} {σ : Sl} {H : Hp} {Q Q' : Bool → Hp → Prop} (h : tT S e σ H Q) (hq : ∀ v H', Q v H' → Q' v H') : tT S e σ H Q' := by
  obtain ⟨g, st, env, a, h⟩ := h
  exact ⟨g, st, env, a, h.mono fun g' H' d v st' s w r k => hq v H' (k g' H' v s w r)⟩
theorem lemT {σ : Sl} {g : Gh} {H : Hp} {st : Store} {env : Ev} {γ δ : Type} {rel : Rl γ δ} {Q : δ → Hp → Prop} {f : Bool → Store → R γ} (at_ : At S σ H g st env) (up : Up rel) (h : Post S σ g H ((tested (evE S.cl a env st)).bind f) rel Q) :
    tT S a σ H fun k H1 => ∃ g st, At S σ H1 g st env ∧ Post S σ g H1 (f k st) rel Q := by
  refine ⟨g, st, env, at_, (h.bind (rel1 := rT) up).mono fun g' H' d v st' s w r k => ?_⟩
  obtain ⟨g1, st1, d1, s1, w1, r1, h1⟩ := k g' H' v s w r
  cases r1
  exact ⟨g1, st1, at_.step s1 w1, h1⟩
theorem t_not (ha : PT X pa (tT S a)) : PT X (.UnaryOp .Not pa pos) (tT S (.not a)) := by
  refine (pt_not ha).mono fun σ H Q ⟨g, st, env, at_, h⟩ => ?_
  have h' : Post S σ g H ((tested (evE S.cl a env st)).bind fun b st => R.ok (!b) st) rT Q := by rw [← tested_not]; exact h
  exact tT_imp (lemT at_ up_T h') fun k H1 ⟨g, st, a1, h1⟩ => h1 g H1 _ (Step.refl _ _) a1.2.1 rfl
theorem tested_and (r : R D) (f : Store → R D) : tested (r.bind fun x st => match x with | .bool true => f st | .bool false => R.ok (.bool false) st | _ => .bad) = (tested r).bind fun b st => if b then tested (f st) else R.ok false st := by
  cases r with
  | ok d st =>
    cases d with
    | bool b => cases b <;> rfl
    | _ => rfl
  | exc c st => rfl
  | bad => rfl
theorem tested_or (r : R D) (f : Store → R D) : tested (r.bind fun x st => match x with | .bool false => f st | .bool true => R.ok (.bool true) st | _ => .bad) = (tested r).bind fun b st => if b then R.ok true st else tested (f st) := by
  cases r with
  | ok d st =>
    cases d with
    | bool b => cases b <;> rfl
    | _ => rfl
  | exc c st => rfl
  | bad => rfl
theorem _root_.L2.PW.mono {e : Expr} {t t' : TT} (h : PW X e t) (m : ∀ σ H Q, t' σ H Q → t σ H Q) : PW X e t' := ⟨fun wh pins s σ H Q I q => h.run wh pins s σ H Q I (m σ H Q q)⟩
theorem w_and {rest : List Expr} (ha : PT X pa (tT S a)) (hb : PW X (.BoolOp .And (pb :: rest) pos) (tT S b)) : PW X (.BoolOp .And (pa :: pb :: rest) pos) (tT S (.and a b)) := by
  refine (pw_and ha hb).mono fun σ H Q ⟨g, st, env, at_, h⟩ => ?_
  have h' : Post S σ g H ((tested (evE S.cl a env st)).bind fun k st => if k then tested (evE S.cl b env st) else R.ok false st) rT Q := by rw [← tested_and]; exact h
  refine tT_imp (lemT at_ up_T h') fun k H1 ⟨g, st, a1, h1⟩ => ?_
  cases k with
  | true => rw [if_pos rfl] at h1 ⊢; exact ⟨g, st, env, a1, h1⟩
  | false => rw [if_neg Bool.false_ne_true] at h1 ⊢; exact h1 g H1 _ (Step.refl _ _) a1.2.1 rfl
theorem w_or {rest : List Expr} (ha : PT X pa (tT S a)) (hb : PW X (.BoolOp .Or (pb :: rest) pos) (tT S b)) : PW X (.BoolOp .Or (pa :: pb :: rest) pos) (tT S (.or a b)) := by
  refine (pw_or ha hb).mono fun σ H Q ⟨g, st, env, at_, h⟩ => ?_
  have h' : Post S σ g H ((tested (evE S.cl a env st)).bind fun k st => if k then R.ok true st else tested (evE S.cl b env st)) rT Q := by rw [← tested_or]; exact h
  refine tT_imp (lemT at_ up_T h') fun k H1 ⟨g, st, a1, h1⟩ => ?_
  cases k with
  | true => rw [if_pos rfl] at h1 ⊢; exact h1 g H1 _ (Step.refl _ _) a1.2.1 rfl
  | false => rw [if_neg Bool.false_ne_true] at h1 ⊢; exact ⟨g, st, env, a1, h1⟩
theorem w_and1 (ha : PT X pa (tT S a)) : PW X (.BoolOp .And [pa] pos) (tT S a) := pw_and1 ha
theorem w_or1 (ha : PT X pa (tT S a)) : PW X (.BoolOp .Or [pa] pos) (tT S a) := pw_or1 ha
theorem tested_bind {γ : Type} (r : R D) (f g : Store → R γ) : (r.bind fun x st => match x with | .bool true => f st | .bool false => g st | _ => .bad) = (tested r).bind fun b st => if b then f st else g st := by
  cases r with
  | ok d st =>
    cases d with
    | bool b => cases b <;> rfl
    | _ => rfl
  | exc c st => rfl
  | bad => rfl
theorem e_ite (hc : PT X pc (tT S c)) (ha : PE X pa (tF S a)) (hb : PE X pb (tF S b)) : PE X (.IfExp pc pa pb pos) (tF S (.ite c a b)) := by
  refine (pe_ifExp hc ha hb).mono fun σ H Q ⟨g, st, env, at_, h⟩ => ?_
  have h' : Post S σ g H ((tested (evE S.cl c env st)).bind fun k st => if k then evE S.cl a env st else evE S.cl b env st) (rF S.K) Q := by rw [← tested_bind]; exact h
  refine tT_imp (lemT at_ up_F h') fun k H1 ⟨g, st, a1, h1⟩ => ?_
  cases k with
  | true => rw [if_pos rfl] at h1 ⊢; exact ⟨g, st, env, a1, h1⟩
  | false => rw [if_neg Bool.false_ne_true] at h1 ⊢; exact ⟨g, st, env, a1, h1⟩
end
end DDS

set_option Elab.async false
set_option linter.all false
set_option maxRecDepth 100000
set_option maxHeartbeats 2000000
namespace DDS
open PySem PySem.Spec PyProof.Rows L2 DD
theorem RB.nonIff {K : PySem.W.Frag} {g : Gh} {H : Hp} {d : D} {v : V} (h : RB K g H d v) : decide (v = .non) = (match d with | .non => true | _ => false) := by
  cases d with
  | non => cases h; rfl
  | bool b => cases h; rfl
  | int i => cases h; rfl
  | str z => cases h; rfl
  | tup ds => obtain ⟨a, vs, rfl, _⟩ := h; rfl
  | lst ds => obtain ⟨a, vs, rfl, _⟩ := h; rfl
  | dic ks us => obtain ⟨a, vs, rfl, _⟩ := h; rfl
  | ldic ks us => obtain ⟨a, vs, rfl, _⟩ := h; rfl
  | ref k => obtain ⟨a, _, rfl⟩ := h; rfl
  | scr ds => obtain ⟨a, vs, rfl, _⟩ := h; rfl
section
variable {X : Cx} {S : Sg} {pos : Pos} {pa pb pc : Expr} {a b c : E}
/-! ### is -/
theorem e_isN {k : Nat} {p2 : Pos} (ha : PE X pa (tB S a)) : PE X (.Compare pa [.Is] [.Constant .none k p2] pos) (tF S (.isd a .non true)) := by
  refine (pe_cmp (pc_isN ha)).mono fun σ H Q ⟨g, st, env, at_, h⟩ => ?_
  refine tE_imp (lem1 (rel1 := rB S.K) at_ up_F h) fun x H1 ⟨g, st, d, a1, r, h1⟩ => ?_
  rw [RB.nonIff r]
  cases d <;> exact h1 g H1 _ (Step.refl _ _) a1.2.1 rfl
theorem e_notN {k : Nat} {p2 : Pos} (ha : PE X pa (tB S a)) : PE X (.Compare pa [.IsNot] [.Constant .none k p2] pos) (tF S (.isd a .non false)) := by
  refine (pe_cmp (pc_notN ha)).mono fun σ H Q ⟨g, st, env, at_, h⟩ => ?_
  refine tE_imp (lem1 (rel1 := rB S.K) at_ up_F h) fun x H1 ⟨g, st, d, a1, r, h1⟩ => ?_
  rw [RB.nonIff r]
  cases d <;> exact h1 g H1 _ (Step.refl _ _) a1.2.1 rfl
theorem e_isBl {k : Nat} {p2 : Pos} {t : Bool} (ha : PE X pa (tB S a)) : PE X (.Compare pa [.Is] [.Constant (.bool t) k p2] pos) (tF S (.isd a (.bool t) true)) := by
  refine (pe_cmpR op_isBl ha pe_bl (nomark _)).mono fun σ H Q ⟨g, st, env, at_, h⟩ => ?_
  refine tE_imp (lem1 (rel1 := rB S.K) at_ up_F h) fun x H1 ⟨g, st, d, a1, r, h1⟩ => ?_
  cases d with
  | bool q =>
    cases r
    have e : decide (q = t) = ((t == q) == true) := by cases q <;> cases t <;> rfl
    refine ⟨q, t, rfl, rfl, ?_⟩
    rw [e]
    exact h1 g H1 _ (Step.refl _ _) a1.2.1 rfl
  | _ => exact h1.elim
theorem e_notBl {k : Nat} {p2 : Pos} {t : Bool} (ha : PE X pa (tB S a)) : PE X (.Compare pa [.IsNot] [.Constant (.bool t) k p2] pos) (tF S (.isd a (.bool t) false)) := by
  refine (pe_cmpR op_notBl ha pe_bl (nomark _)).mono fun σ H Q ⟨g, st, env, at_, h⟩ => ?_
  refine tE_imp (lem1 (rel1 := rB S.K) at_ up_F h) fun x H1 ⟨g, st, d, a1, r, h1⟩ => ?_
  cases d with
  | bool q =>
    cases r
    have e : (!decide (q = t)) = ((t == q) == false) := by cases q <;> cases t <;> rfl
    refine ⟨q, t, rfl, rfl, ?_⟩
    rw [e]
    exact h1 g H1 _ (Step.refl _ _) a1.2.1 rfl
  | _ => exact h1.elim
/-! ### chains -/
theorem e_chain (hK : X.K = S.K) (hu : X.A.units + 65 < cLine) {o p : Cop} (ha : PE X pa (tB S a)) (hb : PE X pb (tB S b)) (hc : PE X pc (tB S c)) (hm : lastMarks [copP o, copP p] [pb, pc] = false) : PE X (.Compare pa [copP o, copP p] [pb, pc] pos) (tF S (.chain o p a b c)) := by
  refine (pe_chain (op_cmp hu o) (op_cmp hu p) ha hb hc hm).mono fun σ H Q ⟨g, st, env, at_, h⟩ => ?_
  rw [hK]
  refine tE_imp (lem2 (a := a) (b := b) (f := fun x y st => match cmpop o x y with
    | some true => (evE S.cl c env st).bind fun z st => R.of ((cmpop p y z).map D.bool) st
    | some false => R.ok (D.bool false) st
    | none => .bad) at_ up_F h) fun x H1 h1 => tE_imp h1 fun y H2 ⟨g, st, d1, d2, a2, r1, r2, h2⟩ => ?_
  cases e : cmpop o d1 d2 with
  | none => rw [e] at h2; exact h2.elim
  | some k =>
    rw [e] at h2
    refine ⟨g, st, d1, d2, k, a2.2.1, r1, r2, e, k, rfl, ?_⟩
    cases k with
    | false => rw [if_neg Bool.false_ne_true]; exact h2 g H2 _ (Step.refl _ _) a2.2.1 rfl
    | true =>
      rw [if_pos rfl]
      refine ⟨g, st, env, a2, (Post.bind (rel1 := rB S.K) up_F h2).mono fun g' H' d v st' s w r k => ?_⟩
      obtain ⟨g1, st1, d3, s3, w3, r3, h3⟩ := k g' H' v s w r
      cases e3 : cmpop p d2 d3 with
      | none => rw [e3] at h3; exact h3.elim
      | some k => rw [e3] at h3; exact ⟨g1, st1, d2, d3, k, w3, RB.step a2.2.1 s3 r2, r3, e3, h3 g1 H' _ (Step.refl _ _) w3 rfl⟩
theorem t_chain (hK : X.K = S.K) (hu : X.A.units + 65 < cLine) {o p : Cop} (ha : PE X pa (tB S a)) (hb : PE X pb (tB S b)) (hc : PE X pc (tB S c)) (hm : lastMarks [copP o, copP p] [pb, pc] = false) : PT X (.Compare pa [copP o, copP p] [pb, pc] pos) (tT S (.chain o p a b c)) := by
  refine (pt_chain (op_cmp hu o) (op_cmp hu p) ha hb hc hm).mono fun σ H Q ⟨g, st, env, at_, h⟩ => ?_
  have h' : tF S (.chain o p a b c) σ H (fun x H' => ∃ k, x = .bl k ∧ Q k H') := by
    refine ⟨g, st, env, at_, (Post.bind (rel1 := rF S.K) up_T h).mono fun g' H' d v st' s w r k => ?_⟩
    obtain ⟨g1, st1, d3, s3, w3, r3, h3⟩ := k g' H' v s w r
    cases d3 with
    | bool q => cases r3; exact ⟨q, rfl, h3 g1 H' q (Step.refl _ _) w3 rfl⟩
    | _ => exact h3.elim
  obtain ⟨g, st, env, at_, h⟩ := h'
  show tChain _ _ _ _ _ σ H _
  rw [hK]
  refine tE_imp (lem2 (a := a) (b := b) (f := fun x y st => match cmpop o x y with
    | some true => (evE S.cl c env st).bind fun z st => R.of ((cmpop p y z).map D.bool) st
    | some false => R.ok (D.bool false) st
    | none => .bad) at_ up_F h) fun x H1 h1 => tE_imp h1 fun y H2 ⟨g, st, d1, d2, a2, r1, r2, h2⟩ => ?_
  cases e : cmpop o d1 d2 with
  | none => rw [e] at h2; exact h2.elim
  | some k =>
    rw [e] at h2
    refine ⟨g, st, d1, d2, k, a2.2.1, r1, r2, e, k, rfl, ?_⟩
    cases k with
    | false => rw [if_neg Bool.false_ne_true]; exact h2 g H2 _ (Step.refl _ _) a2.2.1 rfl
    | true =>
      rw [if_pos rfl]
      refine ⟨g, st, env, a2, (Post.bind (rel1 := rB S.K) up_F h2).mono fun g' H' d v st' s w r k => ?_⟩
      obtain ⟨g1, st1, d3, s3, w3, r3, h3⟩ := k g' H' v s w r
      cases e3 : cmpop p d2 d3 with
      | none => rw [e3] at h3; exact h3.elim
      | some k => rw [e3] at h3; exact ⟨g1, st1, d2, d3, k, w3, RB.step a2.2.1 s3 r2, r3, e3, h3 g1 H' _ (Step.refl _ _) w3 rfl⟩
/-! ### arguments -/
def notStar : Expr → Bool
  | .Starred _ _ => false
  | _ => true
theorem star_cons {e : Expr} {es : List Expr} {env : Env} (h : notStar e = true) : starEach (e :: es) env = (false, eval e env) :: starEach es env := by
  cases e <;> first | rfl | cases h
theorem star_all {es : List Expr} {env : Env} {pos : Pos} (h : es.all notStar = true) : (backTo pos (starEach es env)).any (·.1) = false := by
  induction es with
  | nil => rfl
  | cons e es ih =>
    rw [List.all_cons, Bool.and_eq_true] at h
    rw [star_cons h.1]
    show (false || (backTo pos (starEach es env)).any (·.1)) = false
    rw [ih h.2]; rfl
theorem es_nil {rel : Rl (List D) (List V)} (hr : ∀ H g H', rel H g H' [] []) : PA X [] (tEs S rel []) := pa_nil.mono fun σ H Q ⟨g, st, env, at_, h⟩ => h g H [] (Step.refl _ _) at_.2.1 (hr _ _ _)
theorem es_consF {pes : List Expr} {es : List E} (hs : notStar pa = true) (ha : PE X pa (tF S a)) (hr : PA X pes (tEs S (rFs S.K) es)) : PA X (pa :: pes) (tEs S (rFs S.K) (a :: es)) := by
  refine (pa_cons ha hr (star_cons hs)).mono fun σ H Q ⟨g, st, env, at_, h⟩ => ?_
  refine tE_imp (lem1 (rel1 := rF S.K) at_ up_Fs h) fun x H1 ⟨g, st, d, a1, r, h1⟩ => ?_
  refine ⟨g, st, env, a1, (Post.bind (rel1 := rFs S.K) up_Fs h1).mono fun g' H' d' v st' s w r' k => ?_⟩
  obtain ⟨g1, st1, d3, s3, w3, r3, h3⟩ := k g' H' v s w r'
  exact h3 g1 H' _ (Step.refl _ _) w3 ⟨x, v, rfl, RV.stp (s3.stp a1.2.1) r, r3⟩
theorem es_consB {pes : List Expr} {es : List E} (hs : notStar pa = true) (ha : PE X pa (tB S a)) (hr : PA X pes (tEs S (rBs S.K) es)) : PA X (pa :: pes) (tEs S (rBs S.K) (a :: es)) := by
  refine (pa_cons ha hr (star_cons hs)).mono fun σ H Q ⟨g, st, env, at_, h⟩ => ?_
  refine tE_imp (lem1 (rel1 := rB S.K) at_ up_Bs h) fun x H1 ⟨g, st, d, a1, r, h1⟩ => ?_
  refine ⟨g, st, env, a1, (Post.bind (rel1 := rBs S.K) up_Bs h1).mono fun g' H' d' v st' s w r' k => ?_⟩
  obtain ⟨g1, st1, d3, s3, w3, r3, h3⟩ := k g' H' v s w r'
  exact h3 g1 H' _ (Step.refl _ _) w3 ⟨x, v, rfl, RB.step a1.2.1 s3 r, r3⟩
/-! ### displays -/
theorem lim_size {α : Type} {xs : List α} (h : xs.length ≤ lim) : xs.length ≤ sizeLine := Nat.le_trans h lim_le
theorem e_tup {pes : List Expr} {es : List E} {k : Nat} (ha : PA X pes (tEs S (rFs S.K) es)) : PE X (.Tuple pes k pos) (tF S (.tup es)) := by
  refine (pe_tupN ha).mono fun σ H Q ⟨g, st, env, at_, h⟩ => ?_
  refine ⟨g, st, env, at_, (Post.bind (rel1 := rFs S.K) up_F h).mono fun g' H' d v st' s w r k => ?_⟩
  obtain ⟨g1, st1, ds, s1, w1, r1, h1⟩ := k g' H' v s w r
  by_cases hz : ds.length ≤ lim
  · rw [if_pos hz] at h1
    refine ⟨by rw [← RVs.length r1]; exact lim_size hz, fun p o ho hp => ?_⟩
    exact h1 g1 _ _ (Step.alloc hp) (w1.alloc hp) ⟨p, v, rfl, SqN.new ho, r1.stp (Stp.alloc hp)⟩
  · rw [if_neg hz] at h1; exact h1.elim
theorem e_lst {pes : List Expr} {es : List E} (ha : PA X pes (tEs S (rFs S.K) es)) : PE X (.List pes pos) (tN S (.lst es)) := by
  refine (pe_lst ha).mono fun σ H Q ⟨g, st, env, at_, h⟩ => ?_
  refine ⟨g, st, env, at_, (Post.bind (rel1 := rFs S.K) up_N h).mono fun g' H' d v st' s w r k => ?_⟩
  obtain ⟨g1, st1, ds, s1, w1, r1, h1⟩ := k g' H' v s w r
  by_cases hz : ds.length ≤ lim
  · rw [if_pos hz] at h1
    refine ⟨by rw [← RVs.length r1]; exact lim_size hz, fun p hp => ?_⟩
    exact h1 g1 _ _ (Step.alloc hp) (w1.alloc hp) ⟨p, v, rfl, upd_same, r1.stp (Stp.alloc hp), w1.newF hp, w1.newk hp, hp⟩
  · rw [if_neg hz] at h1; exact h1.elim
theorem e_dic0 : PE X (.Dict [] [] pos) (tN S .dic0) := by
  refine pe_dnewK.mono fun σ H Q ⟨g, st, env, at_, h⟩ => ?_
  intro p hp
  exact h g _ _ (Step.alloc hp) (at_.2.1.alloc hp) ⟨p, [], rfl, upd_same, ⟨rfl, rfl⟩, at_.2.1.newF hp, at_.2.1.newk hp, hp⟩
/-! ### subscripts, slices -/
theorem e_idx (hK : X.K = S.K) (hp : PlainIx pb) (ha : PE X pa (tB S a)) (hb : PE X pb (tB S b)) : PE X (.Subscript pa pb pos) (tF S (.idx a b)) := by
  refine (pe_ix ix_idx ha hb hp).mono fun σ H Q ⟨g, st, env, at_, h⟩ => ?_
  rw [hK]
  refine tE_imp (lem2 (a := a) (b := b) (f := fun x y st => R.of (idxD x y) st) at_ up_F h) fun x H1 h1 => tE_imp h1 fun y H2 ⟨g, st, d1, d2, a2, r1, r2, h2⟩ => ?_
  cases e : idxD d1 d2 with
  | none => rw [e] at h2; exact h2.elim
  | some k => rw [e] at h2; exact ⟨g, st, d1, d2, k, a2.2.1, r1, r2, e, fun v r => h2 g H2 v (Step.refl _ _) a2.2.1 r⟩
theorem e_idxC (hK : X.K = S.K) (hp : PlainIx pb) (ha : PE X pa (tB S a)) (hb : PE X pb (tB S b)) : PE X (.Subscript pa pb pos) (tF S (.idxC a b)) := by
  refine (pe_ix ix_list ha hb hp).mono fun σ H Q ⟨g, st, env, at_, h⟩ => ?_
  rw [hK]
  refine tE_imp (lem2 (a := a) (b := b) (f := fun x y st => match x with
    | .ref r => match st[r]? with
      | some (.lst ds) => R.of (idxD (.lst ds) y) st
      | none => .bad
    | _ => .bad) at_ up_F h) fun x H1 h1 => tE_imp h1 fun y H2 ⟨g, st, d1, d2, a2, r1, r2, h2⟩ => ?_
  cases d1 with
  | ref k =>
    obtain ⟨a, ek, rfl⟩ := r1
    cases ec : st[k]? with
    | none => simp only [ec] at h2; exact h2.elim
    | some c =>
      cases c with
      | lst ds =>
        simp only [ec] at h2
        obtain ⟨vs, e1, e2, _⟩ := a2.2.1.cell k _ a ec ek
        cases d2 with
        | int i =>
          cases r2
          cases e : idxD (.lst ds) (.int i) with
          | none => rw [e] at h2; exact h2.elim
          | some d =>
            rw [e] at h2
            obtain ⟨v', e3, e4⟩ := RVs.atI e2 (show (place ds.length i).bind (ds[·]?) = some d from e)
            exact ⟨a, vs, i, v', rfl, rfl, .inl (.inl e1), e3, h2 g H2 v' (Step.refl _ _) a2.2.1 e4⟩
        | _ => exact h2.elim
  | _ => exact h2.elim
theorem tO_part {e : E} {σ : Sl} {H : Hp} {Q : Option Int → Hp → Prop} (h : tB S e σ H fun x H1 => ∃ i, x = .int i ∧ Q (some i) H1) : tPart (tB S e) σ H Q := h
theorem e_sl (hK : X.K = S.K) {p2 : Pos} (ha : PE X pa (tB S a)) (hb : PE X pb (tB S b)) (hc : PE X pc (tB S c)) : PE X (.Subscript pa (.Slice (some pb) (some pc) none p2) pos) (tN S (.sl a b c)) := by
  refine (pe_slice sl_all ha (po_some hb) (po_some hc)).mono fun σ H Q ⟨g, st, env, at_, h⟩ => ?_
  rw [hK]
  refine tE_imp (lem2 (a := a) (b := b) (f := fun x y st => match y with
    | .int i => (evE S.cl c env st).bind fun z st => match z with
      | .int j => R.of (sliceD x (some i) (some j)) st
      | _ => .bad
    | _ => .bad) at_ up_N h) fun x H1 h1 => tE_imp h1 fun y H2 ⟨g, st, d1, d2, a2, r1, r2, h2⟩ => ?_
  cases d2 <;> try exact h2.elim
  cases r2
  refine ⟨_, rfl, g, st, env, a2, (Post.bind (rel1 := rB S.K) up_N h2).mono fun g' H' d v st' s w r k => ?_⟩
  obtain ⟨g1, st1, d3, s3, w3, r3, h3⟩ := k g' H' v s w r
  cases d3 <;> try exact h3.elim
  cases r3
  exact ⟨_, rfl, g1, st1, d1, w3, RB.step a2.2.1 s3 r1, h3.gives⟩
theorem e_slF (hK : X.K = S.K) {p2 : Pos} (ha : PE X pa (tB S a)) (hb : PE X pb (tB S b)) : PE X (.Subscript pa (.Slice (some pb) none none p2) pos) (tN S (.slF a b)) := by
  refine (pe_slice sl_all ha (po_some hb) po_none).mono fun σ H Q ⟨g, st, env, at_, h⟩ => ?_
  rw [hK]
  refine tE_imp (lem2 (a := a) (b := b) (f := fun x y st => match y with
    | .int i => R.of (sliceD x (some i) none) st
    | _ => .bad) at_ up_N h) fun x H1 h1 => tE_imp h1 fun y H2 ⟨g, st, d1, d2, a2, r1, r2, h2⟩ => ?_
  cases d2 <;> try exact h2.elim
  cases r2
  exact ⟨_, rfl, g, st, d1, a2.2.1, r1, h2.gives⟩
theorem e_slT (hK : X.K = S.K) {p2 : Pos} (ha : PE X pa (tB S a)) (hb : PE X pb (tB S b)) : PE X (.Subscript pa (.Slice none (some pb) none p2) pos) (tN S (.slT a b)) := by
  refine (pe_slice sl_all ha po_none (po_some hb)).mono fun σ H Q ⟨g, st, env, at_, h⟩ => ?_
  rw [hK]
  refine tE_imp (lem2 (a := a) (b := b) (f := fun x y st => match y with
    | .int i => R.of (sliceD x none (some i)) st
    | _ => .bad) at_ up_N h) fun x H1 h1 => tE_imp h1 fun y H2 ⟨g, st, d1, d2, a2, r1, r2, h2⟩ => ?_
  cases d2 <;> try exact h2.elim
  cases r2
  exact ⟨_, rfl, g, st, d1, a2.2.1, r1, h2.gives⟩
/-! ### built-ins -/
theorem PA1 {t : TE} (hs : notStar pa = true) (ha : PE X pa t) : PA X [pa] (tCons t tNil) := pa_cons ha pa_nil (star_cons hs)
theorem PA2 {t u : TE} (hs : notStar pa = true) (hs2 : notStar pb = true) (ha : PE X pa t) (hb : PE X pb u) : PA X [pa, pb] (tCons t (tCons u tNil)) := pa_cons ha (PA1 hs2 hb) (star_cons hs)
def biName : Bi → String
  | .len => "len" | .abs => "abs" | .min1 => "min" | .max1 => "max" | .min2 => "min" | .max2 => "max" | .sum => "sum" | .all => "all" | .int => "int" | .list => "list" | .tuple => "tuple" | .sorted => "sorted" | .str => "str" | .sortedset => "" | .lenset => "" | .minp => "min" | .sortedw => "sorted"
theorem e_b1 {id : String} {bi : Bi} {x : Str} {p : Pos} (hr : CallR X (.builtin id) (rB1 S.K bi)) (hg : Gl X x) (hm : X.mg x = none) (hv : bootBuiltins x = some (.builtin id)) (hn : x ≠ "__name__") (hdb : (x == ("__debug__" : Str)) = false)
    (hs : notStar pa = true) (ha : PE X pa (tB S a)) : PE X (.Call (.Name x p) [pa] [] pos) (tN S (.b1 bi a)) := by
  refine (pe_callB hr hg hm hv (PA1 hs ha) hn hdb (star_cons hs) rfl).mono fun σ H Q ⟨g, st, env, at_, h⟩ => ?_
  refine tE_imp (lem1 (rel1 := rB S.K) (f := fun x st => R.of (bi1 bi x) st) at_ up_N h) fun x H1 ⟨g, st, d, a1, r, h1⟩ => ?_
  exact ⟨g, st, d, x, rfl, a1.2.1, r, h1.gives⟩
theorem e_b1T {id : String} {bi : Bi} {x : Str} {p : Pos} (hr : CallR X (.type id) (rB1 S.K bi)) (hg : Gl X x) (hm : X.mg x = none) (hv : bootBuiltins x = some (.type id)) (hn : x ≠ "__name__") (hdb : (x == ("__debug__" : Str)) = false)
    (hs : notStar pa = true) (ha : PE X pa (tB S a)) : PE X (.Call (.Name x p) [pa] [] pos) (tN S (.b1 bi a)) := by
  refine (pe_callTy hr hg hm hv (PA1 hs ha) hn hdb (star_cons hs) rfl).mono fun σ H Q ⟨g, st, env, at_, h⟩ => ?_
  refine tE_imp (lem1 (rel1 := rB S.K) (f := fun x st => R.of (bi1 bi x) st) at_ up_N h) fun x H1 ⟨g, st, d, a1, r, h1⟩ => ?_
  exact ⟨g, st, d, x, rfl, a1.2.1, r, h1.gives⟩
theorem e_b2 {id : String} {bi : Bi} {x : Str} {p : Pos} (hr : CallR X (.builtin id) (rB2 S.K bi)) (hg : Gl X x) (hm : X.mg x = none) (hv : bootBuiltins x = some (.builtin id)) (hn : x ≠ "__name__") (hdb : (x == ("__debug__" : Str)) = false)
    (hs : notStar pa = true) (hs2 : notStar pb = true) (ha : PE X pa (tB S a)) (hb : PE X pb (tB S b)) : PE X (.Call (.Name x p) [pa, pb] [] pos) (tN S (.b2 bi a b)) := by
  refine (pe_callB hr hg hm hv (PA2 hs hs2 ha hb) hn hdb (star_cons hs) (star_all (by simp [hs2]))).mono fun σ H Q ⟨g, st, env, at_, h⟩ => ?_
  refine tE_imp (lem2 (a := a) (b := b) (f := fun x y st => R.of (bi2 bi x y) st) at_ up_N h) fun x H1 h1 => tE_imp h1 fun y H2 ⟨g, st, d1, d2, a2, r1, r2, h2⟩ => ?_
  exact ⟨g, st, d1, d2, x, y, rfl, a2.2.1, r1, r2, h2.gives⟩
/-! ### isinstance -/
def tyP : Ty → String
  | .int => "int"
  | .bool => "bool"
  | .str => "str"
  | .tuple => "tuple"
  | .list => "list"
  | .dict => "dict"
theorem tyS_P (t : Ty) : tyS t = some (tyP t) := by cases t <;> rfl
theorem tyN_some {d : D} (h : (∀ k, d ≠ .ref k) ∧ (∀ k, d ≠ .scr k) ∧ ∀ k l, d ≠ .ldic k l) : ∃ t, tyN d = some t := by
  cases d with
  | ref k => exact absurd rfl (h.1 k)
  | scr k => exact absurd rfl (h.2.1 k)
  | ldic k l => exact absurd rfl (h.2.2 k l)
  | _ => exact ⟨_, rfl⟩
theorem isTys_some {d : D} {ts : List Ty} {b : Bool} (h : isTys d ts = some b) : ((∀ k, d ≠ .ref k) ∧ (∀ k, d ≠ .scr k) ∧ ∀ k l, d ≠ .ldic k l) ∧ b = ts.any (isTy d) := by
  cases d <;> simp only [isTys, Option.some.injEq] at h <;> first | exact ⟨⟨fun k e => (nomatch e), fun k e => (nomatch e), fun k l e => (nomatch e)⟩, h.symm⟩ | cases h
theorem e_isi1 (hK : X.K = S.K) {t : Ty} {p p2 : Pos} (hg : Gl X "isinstance") (hm : X.mg "isinstance" = none) (hg2 : Gl X (Str.ofString (tyP t))) (hm2 : X.mg (Str.ofString (tyP t)) = none)
    (hs : notStar pa = true) (ha : PE X pa (tB S a)) : PE X (.Call (.Name "isinstance" p) [pa, .Name (Str.ofString (tyP t)) p2] [] pos) (tF S (.isi a [t])) := by
  have hb : PE X (.Name (Str.ofString (tyP t)) p2) (tC (.ty (tyP t))) := by
    cases t <;> exact pe_bltn hg2 hm2 (by decide +kernel) rfl (by decide) (by decide)
  refine (pe_callB call_isi hg hm (by decide +kernel) (PA2 hs rfl ha hb) (by decide) (by decide) (star_cons hs) rfl).mono fun σ H Q ⟨g, st, env, at_, h⟩ => ?_
  refine tE_imp (lem1 (rel1 := rB S.K) (f := fun x st => R.of ((isTys x [t]).map D.bool) st) at_ up_F h) fun x H1 ⟨g, st, d, a1, r, h1⟩ => ?_
  cases e : isTys d [t] with
  | none => rw [e] at h1; exact h1.elim
  | some k =>
    rw [e] at h1
    obtain ⟨e1, rfl⟩ := isTys_some e
    obtain ⟨tn, e2⟩ := tyN_some e1
    have q := h1 g H1 _ (Step.refl _ _) a1.2.1 rfl
    have ek := kit_d e2 (tyS_P t)
    refine ⟨x, .ty (tyP t), _, _, isTy d t, rfl, .ty _, by rw [hK]; exact RB.tyx r e2, kit_ty ek, ?_⟩
    simpa using q
theorem e_isi2 (hK : X.K = S.K) {t u : Ty} {k : Nat} {p p2 p3 p4 : Pos} (hg : Gl X "isinstance") (hm : X.mg "isinstance" = none) (hg2 : Gl X (Str.ofString (tyP t))) (hm2 : X.mg (Str.ofString (tyP t)) = none) (hg3 : Gl X (Str.ofString (tyP u))) (hm3 : X.mg (Str.ofString (tyP u)) = none)
    (hs : notStar pa = true) (ha : PE X pa (tB S a)) : PE X (.Call (.Name "isinstance" p) [pa, .Tuple [.Name (Str.ofString (tyP t)) p2, .Name (Str.ofString (tyP u)) p3] k p4] [] pos) (tF S (.isi a [t, u])) := by
  have hb : PE X (.Name (Str.ofString (tyP t)) p2) (tC (.ty (tyP t))) := by
    cases t <;> exact pe_bltn hg2 hm2 (by decide +kernel) rfl (by decide) (by decide)
  have hc : PE X (.Name (Str.ofString (tyP u)) p3) (tC (.ty (tyP u))) := by
    cases u <;> exact pe_bltn hg3 hm3 (by decide +kernel) rfl (by decide) (by decide)
  have ht : PE X (.Tuple [.Name (Str.ofString (tyP t)) p2, .Name (Str.ofString (tyP u)) p3] k p4) (tTup (tCons (tC (.ty (tyP t))) (tCons (tC (.ty (tyP u))) tNil))) := pe_tup (PA2 rfl rfl hb hc)
  refine (pe_callB call_isiT hg hm (by decide +kernel) (PA2 hs rfl ha ht) (by decide) (by decide) (star_cons hs) rfl).mono fun σ H Q ⟨g, st, env, at_, h⟩ => ?_
  refine tE_imp (lem1 (rel1 := rB S.K) (f := fun x st => R.of ((isTys x [t, u]).map D.bool) st) at_ up_F h) fun x H1 ⟨g, st, d, a1, r, h1⟩ => ?_
  refine ⟨by show 2 ≤ sizeLine; decide, fun q hq => ?_⟩
  cases e : isTys d [t, u] with
  | none => rw [e] at h1; exact h1.elim
  | some k =>
    rw [e] at h1
    obtain ⟨e1, rfl⟩ := isTys_some e
    obtain ⟨tn, e2⟩ := tyN_some e1
    have r' : RB S.K g (upd H1 q (.tup [.ty (tyP t), .ty (tyP u)])) d x := RB.step a1.2.1 (Step.alloc hq) r
    have q' := h1 g _ _ (Step.alloc (o := .tup [.ty (tyP t), .ty (tyP u)]) hq) (a1.2.1.alloc hq) rfl
    refine ⟨x, q, [.ty (tyP t), .ty (tyP u)], _, [.type (tyP t), .type (tyP u)], isTy d t || isTy d u, rfl, upd_same, .cons (.ty _) (.cons (.ty _) .nil), by rw [hK]; exact RB.tyx r' e2, ?_, by simpa using q'⟩
    have k1 := kit_ty (K := X.K) (kit_d e2 (tyS_P t))
    have k2 := kit_ty (K := X.K) (kit_d e2 (tyS_P u))
    refine kitAny_cons k1 (fun z => ?_) (fun z => by rw [z]; rfl)
    rw [z]
    exact kitAny_cons k2 (fun z2 => by rw [z2]; exact kitAny_nil) (fun z2 => by rw [z2]; rfl)
end
end DDS

set_option Elab.async false
set_option linter.all false
set_option maxRecDepth 100000
set_option maxHeartbeats 2000000
namespace DDS
open PySem PySem.Spec PyProof.Rows L2 DD
section
variable {prog : Program} {w : World} {A : Around} {E : Value → Shared → Prop} {s : Shared}
/-- what a tuple holds, taken whole -/
theorem collect_tup {l : Addr} {vs : List Value} {Q : List Value → Shared → Prop} (hl : IsTup s.heap l vs.toArray) (hsz : vs.length ≤ sizeLine)
    (h : Q vs { s with heap := (s.heap.push (seqObj "list" #[] 0)).update s.heap.objs.size (Obj.mapSeq (· ++ vs.toArray)) }) : wpAny (model prog w) A (collect (.ref l)) Q E s := by
  obtain ⟨o, ho, hc, n, hd⟩ := hl
  unfold collect
  refine wpAny_bind (wpAny_runValue (codeAny_builtin entry_proto_collect' (show wpAny _ _ (do again (.builtin "list.__iadd__" ⟨[← newList [], .ref l], []⟩)) _ _ s from ?_)))
  refine wpAny_bind (wpAny_newList (wpAny_pure ⟨Code.quiet_builtin _ (by decide +kernel), codeAny_builtin entry_list_iadd' (show wpAny _ _ (Builtin.List.listExtendWith (.ref s.heap.objs.size) (.ref l) (.ref s.heap.objs.size)) _ _ { s with heap := s.heap.push (seqObj "list" #[] 0) } from ?_)⟩))
  unfold Builtin.List.listExtendWith
  have hot : (s.heap.push (seqObj "list" #[] 0)).get? l = some o := Heap.get?_push_of_some _ ho
  refine wpAny_bind (wpAny_typeOf (T := "tuple") ⟨o, hot, hc⟩ ?_)
  have hyes : (Builtin.List.listSameRef (.ref s.heap.objs.size) (.ref l) || Value.type "tuple" == Value.type "list" || Value.type "tuple" == Value.type "tuple") = true := by
    rw [show (Value.type "tuple" == Value.type "tuple") = true from rfl, Bool.or_true]
  rw [if_pos hyes]
  refine wpAny_bind (listItems_at hot hd (wpAny_bind (listItems_at (xs := #[]) (n := 0) (Heap.get?_push_size _ rfl) rfl ?_)))
  rw [if_neg (by simp)]
  refine wpAny_bind (listUpdate_at (xs := #[]) (n := 0) (Heap.get?_push_size _ rfl) rfl (wpAny_pure ?_) (Nat.zero_le _) (by simp only [Array.size_append, List.size_toArray, List.length_nil]; omega))
  show wpAny (model prog w) A (do
      let o ← load s.heap.objs.size
      match o.data with | .seq xs _ => pure xs.toList | _ => unsupported "internal:collect") Q E { s with heap := (s.heap.push (seqObj "list" #[] 0)).update s.heap.objs.size (Obj.mapSeq (· ++ vs.toArray)) }
  refine wpAny_bind (wpAny_load (get?_update_seq (Heap.get?_push_size _ rfl) _) (show wpAny _ _ (pure ((#[] : Array Value) ++ vs.toArray).toList) Q E _ from ?_))
  rw [show ((#[] : Array Value) ++ vs.toArray).toList = vs by simp]
  exact wpAny_pure h
/-- sorted of a tuple of ints -/
theorem sorted_tup {l : Addr} {vs : List Value} {ns : List Int} {Q : Value → Shared → Prop} (hl : IsTup s.heap l vs.toArray) (hI : IntsAre vs ns) (hz : vs.length ≤ sizeLine)
    (h : ∀ out : List Value, SrtO.Srtd SrtO.ltIv out → SrtO.Stb SrtO.ltIv out vs → Q (.ref (s.heap.objs.size + 1)) { s with heap := sortedAll s.heap vs out.toArray }) :
    wpAny (model prog w) A (call (.builtin "sorted") [.ref l]) Q E s := by
  refine Calls.call_function_entry kind_sorted plain_sorted entry_sorted (args_sorted1 _) ?_
  unfold Builtin.«sorted»
  refine wpAny_bind (m := checkCount "sorted" 1 1 _) (wpAny_pure (wpAny_bind (collect_tup hl hz (wpAny_bind (wpAny_newList ?_ hz)))))
  have hsz : ((s.heap.push (seqObj "list" #[] 0)).update s.heap.objs.size (Obj.mapSeq (· ++ vs.toArray))).objs.size = s.heap.objs.size + 1 := by rw [Heap.size_update, size_push']
  have hoL : (((s.heap.push (seqObj "list" #[] 0)).update s.heap.objs.size (Obj.mapSeq (· ++ vs.toArray))).push (seqObj "list" vs.toArray 0)).get? (s.heap.objs.size + 1) = some (seqObj "list" vs.toArray 0) := by rw [← hsz]; exact Heap.get?_push_size _ rfl
  show wpAny _ _ _ _ _ { s with heap := ((s.heap.push (seqObj "list" #[] 0)).update s.heap.objs.size (Obj.mapSeq (· ++ vs.toArray))).push (seqObj "list" vs.toArray 0) }
  rw [hsz]
  refine wpAny_bind (wpAny_holding (wpAny_call_entry slot_list_sort ⟨_, hoL, rfl⟩ entry_list_sort (SrtO.list_sort_ord SrtO.swo_int hoL hz (fun h2 => SrtO.ints_sortable hI h2) fun out hs hb => ⟨_, rfl, wpAny_pure ⟨_, rfl, h out hs hb⟩⟩) (args_list_sort _)))
end
/-- pairs of an int and a text -/
def IsIS (h : Heap) (v : Value) (p : Int × Str) : Prop := ∃ a o t u n, v = .ref a ∧ h.get? a = some o ∧ o.cls = .type "tuple" ∧ o.data = .seq #[.int p.1 t, .str p.2 u] n
theorem IsIS.keeps {h h' : Heap} {v : Value} {q : Int × Str} (p : IsIS h v q) (k : ∀ b o, h.get? b = some o → o.cls = .type "tuple" → h'.get? b = some o) : IsIS h' v q := by
  obtain ⟨a, o, t, u, n, e, ho, hc, hd⟩ := p
  exact ⟨a, o, t, u, n, e, k _ _ ho hc, hc, hd⟩
theorem swo_is (k : Value → Int × Str) : SrtO.Swo fun v u => ltIS (k v) (k u) := ⟨fun _ _ h => ltIS_asym h, fun _ _ _ h1 h2 => ltIS_tr h1 h2⟩
theorem isFirsts {h : Heap} : ∀ {vs : List Value}, (∀ v ∈ vs, ∃ p, IsIS h v p) → ∃ fs : List Value, PySem.W.KatTups h vs fs ∧ fs.length = vs.length ∧ ∀ f ∈ fs, ∃ x t, f = Value.int x t
  | [], _ => ⟨[], PySem.W.KatTups.nil, rfl, fun _ hm => by simp at hm⟩
  | v :: vs, hp => by
    obtain ⟨fs, h1, h2, h3⟩ := isFirsts (vs := vs) fun u hm => hp u (List.mem_cons_of_mem _ hm)
    obtain ⟨p, a, o, t, u, n, rfl, ho, hc, hd⟩ := hp v (List.mem_cons_self ..)
    refine ⟨.int p.1 t :: fs, PySem.W.KatTups.cons ho hc hd rfl h1, by simp [h2], fun f hm => ?_⟩
    rcases List.mem_cons.mp hm with rfl | hm
    · exact ⟨_, t, rfl⟩
    · exact h3 f hm
section
variable {prog : Program} {w : World} {A : Around} {E : Value → Shared → Prop} {s : Shared}
theorem is_cmp {vs : List Value} {k : Value → Int × Str} (hp : ∀ v ∈ vs, IsIS s.heap v (k v)) : SrtO.Cmp prog w A s (tuples' true) (fun p => p.1 ∈ vs) (SrtO.lt2 fun v u => ltIS (k v) (k u)) := by
  intro p q hm hm'
  have h1 := hp _ hm
  have h2 := hp _ hm'
  show wpAny (model prog w) A (keyLt' (tuples' true) p.1 q.1) (fun r s' => s' = s ∧ r = ltIS (k p.1) (k q.1)) (fun _ _ => False) s
  unfold ltIS
  obtain ⟨a, o, t, u, n, e, ho, hc, hd⟩ := h1
  obtain ⟨a', o', t', u', n', e', ho', hc', hd'⟩ := h2
  generalize (k p.1).1 = x at hd ⊢
  generalize (k p.1).2 = y at hd ⊢
  generalize (k q.1).1 = x' at hd' ⊢
  generalize (k q.1).2 = y' at hd' ⊢
  rw [e, e']
  refine PySem.W.kat_lt ho hd ho' hd' (show PySem.W.KatLex prog w A true (decide (2 < 2)) _ [(.int x t, .int x' t'), (.str y u, .str y' u')] 0 s from ?_)
  refine PySem.W.kat_cons (SeqAt.EqAt.int_int x t x' t' prog w _ _ (PySem.W.kat_go (fun e1 => ?_) (fun e1 => ?_)))
  · have ex : x = x' := by simpa using e1
    refine PySem.W.kat_yes (PySem.W.kat_cons (SeqAt.EqAt.str_str y u y' u' prog w _ _ (PySem.W.kat_go (fun e2 => ?_) (fun e2 => ?_))))
    · have ey : y = y' := by simpa using e2
      refine PySem.W.kat_yes (PySem.W.kat_nil ⟨rfl, ?_⟩)
      rw [if_pos ex, ey]
      exact (decide_eq_false (List.lt_irrefl _)).symm
    · refine PySem.W.kat_no (PySem.W.kat_one _ _ (PyProof.Rows.lt_str ?_))
      exact (show s = s ∧ decide (y.cps.toList < y'.cps.toList) = (if x = x' then decide (y.cps.toList < y'.cps.toList) else decide (x < x')) from ⟨rfl, (if_pos ex).symm⟩)
  · have ex : ¬ x = x' := by simpa using e1
    exact PySem.W.kat_no (PyProof.Rows.oneLt_int ⟨rfl, (if_neg ex).symm⟩)
theorem is_sortable {a : Addr} {vs : List Value} {k : Value → Int × Str} (h0 : 0 < vs.length) (hp : ∀ v ∈ vs, IsIS s.heap v (k v)) (ha : ∀ o, s.heap.get? a = some o → o.cls ≠ .type "tuple") : SrtO.SortableO prog w A s a vs fun v u => ltIS (k v) (k u) := by
  intro hh keep
  have hq : ∀ v ∈ vs, IsIS hh v (k v) := fun v hm => (hp v hm).keeps fun b o e c => keep b o (fun z => by subst z; exact ha o e c) e
  obtain ⟨fs, f1, f2, f3⟩ := isFirsts fun v hm => ⟨_, hq v hm⟩
  refine ⟨tuples' true, fun Q E hQ => PySem.W.kat_kind (T := .type "int") f1 (by omega) (fun f hm => ?_) (by rfl) ?_, is_cmp hq⟩
  · obtain ⟨x, t, rfl⟩ := f3 f hm
    exact PySem.W.Looks.now
  · rw [show (Value.type "int" != Value.type "tuple") = true by first | decide +kernel | rfl | decide]
    exact hQ
end
section
variable {X : Cx}
open Classical in
/-- the int and the text of a tuple -/
noncomputable def keyS (K : PySem.W.Frag) (H : Hp) (x : V) : Int × Str := if h : ∃ p : Int × Str, ∃ t, x = V.ref t ∧ SqN K H t [.int p.1, .str p.2] then Classical.choose h else (0, ⟨#[]⟩)
theorem keyS_ok {K : PySem.W.Frag} {H : Hp} {x : V} (h : ∃ p : Int × Str, ∃ t, x = V.ref t ∧ SqN K H t [.int p.1, .str p.2]) : ∃ t, x = V.ref t ∧ SqN K H t [.int (keyS K H x).1, .str (keyS K H x).2] := by
  unfold keyS
  rw [dif_pos h]
  exact Classical.choose_spec h
theorem isOf_eq : ∀ {ds : List D} {ps : List (Int × Str)}, isOf ds = some ps → ds = ps.map isD
  | [], _, h => by cases h; rfl
  | d :: ds, ps, h => by
    unfold isOf at h
    split at h
    · rename_i e; cases e
    · rename_i i j ds' e
      cases e
      cases e2 : isOf ds with
      | none => rw [e2] at h; cases h
      | some qs => rw [e2] at h; cases h; rw [isOf_eq e2]; rfl
    · cases h
theorem RVs.iss {K : PySem.W.Frag} {g : Gh} {H : Hp} : ∀ {ps : List (Int × Str)} {vs : List V}, RVs K g H (ps.map isD) vs → ∀ v ∈ vs, ∃ p : Int × Str, ∃ t, v = V.ref t ∧ SqN K H t [.int p.1, .str p.2]
  | [], _, h => by rw [show _ = _ from h]; simp
  | p :: ps, _, h => by
    obtain ⟨v, ws, rfl, ⟨a, us, rfl, ha, u1, us1, rfl, r1, u2, us2, rfl, r2, r3⟩, h2⟩ := h
    cases r1; cases r2
    rw [show us2 = [] from r3] at ha
    intro v hv
    rcases List.mem_cons.mp hv with rfl | hv
    · exact ⟨p, a, rfl, ha⟩
    · exact RVs.iss h2 v hv
theorem RVs.keysS {K : PySem.W.Frag} {g : Gh} {H : Hp} (inj : ∀ t xs ys, SqN K H t xs → SqN K H t ys → xs = ys) : ∀ {ps : List (Int × Str)} {vs : List V}, RVs K g H (ps.map isD) vs → vs.map (keyS K H) = ps
  | [], _, h => by rw [show _ = _ from h]; rfl
  | p :: ps, _, h => by
    obtain ⟨v, ws, rfl, ⟨a, us, rfl, ha, u1, us1, rfl, r1, u2, us2, rfl, r2, r3⟩, h2⟩ := h
    cases r1; cases r2
    rw [show us2 = [] from r3] at ha
    obtain ⟨t, e, ht⟩ := keyS_ok (K := K) (H := H) (x := .ref a) ⟨p, a, rfl, ha⟩
    cases e
    have z := inj a _ _ ht ha
    simp only [List.cons.injEq, V.int.injEq, V.str.injEq, and_true] at z
    rw [List.map_cons, RVs.keysS inj h2]
    exact congrArg (· :: ps) (Prod.ext z.1 z.2)
theorem RVs.of_keysS {K : PySem.W.Frag} {g : Gh} {H : Hp} : ∀ {vs : List V}, (∀ v ∈ vs, ∃ p : Int × Str, ∃ t, v = V.ref t ∧ SqN K H t [.int p.1, .str p.2]) → RVs K g H ((vs.map (keyS K H)).map isD) vs
  | [], _ => rfl
  | v :: vs, h => by
    refine ⟨v, vs, rfl, ?_, RVs.of_keysS fun u hu => h u (by simp [hu])⟩
    obtain ⟨t, e, ht⟩ := keyS_ok (h v (by simp))
    exact ⟨t, _, e, ht, .int _, _, rfl, rfl, .str _, [], rfl, rfl, rfl⟩
theorem RVs.of_ints {K : PySem.W.Frag} {g : Gh} {H : Hp} : ∀ (is : List Int), RVs K g H (is.map .int) (is.map V.int)
  | [] => rfl
  | i :: is => ⟨_, _, rfl, rfl, RVs.of_ints is⟩
theorem twosOf_eq : ∀ {ds : List D} {ps : List (Int × Int)}, twosOf ds = some ps → ds = ps.map twoD
  | [], _, h => by cases h; rfl
  | d :: ds, ps, h => by
    unfold twosOf at h
    split at h
    · rename_i e; cases e
    · rename_i i j ds' e
      cases e
      cases e2 : twosOf ds with
      | none => rw [e2] at h; cases h
      | some qs => rw [e2] at h; cases h; rw [twosOf_eq e2]; rfl
    · cases h
open Classical in
/-- the two ints of a tuple -/
noncomputable def keyV (K : PySem.W.Frag) (H : Hp) (x : V) : Int × Int := if h : ∃ p : Int × Int, ∃ t, x = V.ref t ∧ SqN K H t [.int p.1, .int p.2] then Classical.choose h else (0, 0)
theorem keyV_ok {K : PySem.W.Frag} {H : Hp} {x : V} (h : ∃ p : Int × Int, ∃ t, x = V.ref t ∧ SqN K H t [.int p.1, .int p.2]) : ∃ t, x = V.ref t ∧ SqN K H t [.int (keyV K H x).1, .int (keyV K H x).2] := by
  unfold keyV
  rw [dif_pos h]
  exact Classical.choose_spec h
theorem RVs.prs {K : PySem.W.Frag} {g : Gh} {H : Hp} : ∀ {ps : List (Int × Int)} {vs : List V}, RVs K g H (ps.map twoD) vs → ∀ v ∈ vs, ∃ p : Int × Int, ∃ t, v = V.ref t ∧ SqN K H t [.int p.1, .int p.2]
  | [], _, h => by rw [show _ = _ from h]; simp
  | p :: ps, _, h => by
    obtain ⟨v, ws, rfl, h1, h2⟩ := h
    obtain ⟨a, us, rfl, ha, hu⟩ := h1
    obtain ⟨u1, us1, rfl, r1, u2, us2, rfl, r2, r3⟩ := hu
    cases r1; cases r2
    rw [show us2 = [] from r3] at ha
    intro v hv
    rcases List.mem_cons.mp hv with rfl | hv
    · exact ⟨p, a, rfl, ha⟩
    · exact RVs.prs h2 v hv
theorem RVs.keys {K : PySem.W.Frag} {g : Gh} {H : Hp} (inj : ∀ t xs ys, SqN K H t xs → SqN K H t ys → xs = ys) : ∀ {ps : List (Int × Int)} {vs : List V}, RVs K g H (ps.map twoD) vs → vs.map (keyV K H) = ps
  | [], _, h => by rw [show _ = _ from h]; rfl
  | p :: ps, _, h => by
    obtain ⟨v, ws, rfl, h1, h2⟩ := h
    obtain ⟨a, us, rfl, ha, hu⟩ := h1
    obtain ⟨u1, us1, rfl, r1, u2, us2, rfl, r2, r3⟩ := hu
    cases r1; cases r2
    rw [show us2 = [] from r3] at ha
    obtain ⟨t, e, ht⟩ := keyV_ok (K := K) (H := H) (x := .ref a) ⟨p, a, rfl, ha⟩
    cases e
    have z := inj a _ _ ht ha
    simp only [List.cons.injEq, V.int.injEq, and_true] at z
    rw [List.map_cons, RVs.keys inj h2]
    exact congrArg (· :: ps) (Prod.ext z.1 z.2)
theorem RVs.of_keys {K : PySem.W.Frag} {g : Gh} {H : Hp} : ∀ {vs : List V}, (∀ v ∈ vs, ∃ p : Int × Int, ∃ t, v = V.ref t ∧ SqN K H t [.int p.1, .int p.2]) → RVs K g H ((vs.map (keyV K H)).map twoD) vs
  | [], _ => rfl
  | v :: vs, h => by
    refine ⟨v, vs, rfl, ?_, RVs.of_keys fun u hu => h u (by simp [hu])⟩
    obtain ⟨t, e, ht⟩ := keyV_ok (h v (by simp))
    exact ⟨t, _, e, ht, .int _, _, rfl, rfl, .int _, [], rfl, rfl, rfl⟩
theorem call_b_sorted : CallR X (.builtin "sorted") (rB1 X.K .sorted) := by
  intro pins s σ H xs us Q I r h
  obtain ⟨g, st, d, x, rfl, w, hx, q⟩ := h
  cases d <;> first | exact Gives.no q | skip
  · rename_i ds
    obtain ⟨is, e, q2⟩ := Gives.map (show Gives X.K g H st ((intsOf ds).map fun is => .lst ((sortI is).map .int)) Q from q)
    obtain ⟨a, vs, rfl, ha, hv⟩ := hx
    have := intsOf_eq e; subst this
    rw [hv.ints] at ha
    obtain ⟨its, rv, ht, hz⟩ := I.tuple ha.t
    rw [Vals.ref1 r]
    have hi := rv.ints
    refine sorted_tup ht hi (by rw [← rv.length]; exact hz) fun out h1 h2 => ?_
    obtain ⟨k1, k2, k3⟩ := SrtO.ints_out hi h1 h2
    have := sortI_uniq k2 k3
    obtain ⟨ep, he'⟩ := PyProof.Rows.sortedAll_at s.heap its out.toArray
    have hlen : ((out.map SrtO.iv).map V.int).length ≤ sizeLine := by
      rw [List.length_map, k2.length_eq]; rw [List.length_map] at hz; exact hz
    refine ⟨.ref _, upd H (s.heap.objs.size + 1) (.lst ((out.map SrtO.iv).map V.int)), I.laid (t' := s.toks) (fun _ _ => PyProof.Rows.sortedAll_old) (Nat.le_succ _) ⟨hlen, out, ep, vals_of_ints k1, he'⟩, rfl, ?_⟩
    rw [this]
    exact Gives.lst q2 w (RVs.of_ints _) (I.hok.fresh (Nat.le_succ _))
  rename_i ds
  obtain ⟨ds', e, q'⟩ := Gives.map (show Gives X.K g H st ((sortedD ds).map .lst) Q from q)
  obtain ⟨a, vs, rfl, _, ha, hv⟩ := hx
  unfold sortedD at e
  cases e1 : intsOf ds with
  | some is =>
    rw [e1] at e
    cases e
    have := intsOf_eq e1; subst this
    rw [hv.ints] at ha
    refine cr_sortedI pins s σ H _ us Q I r ⟨a, is, rfl, .inl (.inl ha), fun ns' p h1 h2 hp => ?_⟩
    have := sortI_uniq h1 h2
    subst this
    exact Gives.lst q' w (RVs.of_ints _) hp
  | none =>
    rw [e1] at e
    cases e2 : twosOf ds with
    | none =>
      rw [e2] at e
      cases e5 : isOf ds with
      | none => rw [e5] at e; cases e
      | some ps =>
      rw [e5] at e
      cases e
      have := isOf_eq e5; subst this
      have hx := hv.iss
      obtain ⟨its, rv, hl, hz⟩ := I.list (show SqL X.K H a vs from .inl (.inl ha))
      obtain ⟨u, rfl, ru⟩ := vals1 r
      obtain rfl : u = Value.ref a := ru
      obtain ⟨e3, e4⟩ := refs_back rv fun x m => by
        obtain ⟨_, t, e, _⟩ := hx x m
        exact ⟨t, e⟩
      have hk : ∀ v ∈ its, ∃ p : Int × Str, ∃ t, backV v = V.ref t ∧ SqN X.K H t [.int p.1, .str p.2] := fun v hm => hx _ (by rw [e3]; exact List.mem_map.mpr ⟨_, hm, rfl⟩)
      have hp : ∀ v ∈ its, IsIS s.heap v (keyS X.K H (backV v)) := fun v hm => by
        obtain ⟨t, e, ht⟩ := keyS_ok (hk v hm)
        obtain ⟨t', rfl⟩ := e4 v hm
        cases e
        obtain ⟨its2, r2, ⟨o, ho, hc, n, hd⟩, _⟩ := I.tuple ht.t
        obtain ⟨u1, u2, rfl, ri, rj⟩ := vals2 r2
        obtain ⟨t1, rfl⟩ := ri
        obtain ⟨t2, rfl⟩ := rj
        exact ⟨t, o, t1, t2, n, rfl, ho, hc, hd⟩
      refine SrtO.sorted_ord (swo_is fun u => keyS X.K H (backV u)) hl.isList (by rw [← rv.length]; exact hz) (fun h2 h₁ b hb kk => is_sortable (s := { s with heap := h₁ }) (by omega) (fun v hm => (hp v hm).keeps fun b o e _ => (kk b o e).2) fun o e => ?_) fun out h1 h2 => ?_
      · have e' : some o = some (seqObj "list" its.toArray 0) := e.symm.trans hb
        cases e'
        intro c
        exact absurd (Value.type.inj c) (by decide)
      · have h3 : ∀ u ∈ out, ∃ a, u = Value.ref a := fun u hu => e4 u (h2.perm.mem_iff.mp hu)
        obtain ⟨n, hn⟩ := PyProof.Rows.sortedAll_at s.heap its out.toArray
        have pm : (out.map backV).Perm vs := by rw [e3]; exact h2.perm.map backV
        have es : (out.map backV).map (keyS X.K H) = sortIS ps := by
          refine sortIS_uniq ?_ ?_
          · have := pm.map (keyS X.K H)
            rwa [RVs.keysS (fun t xs ys a b => I.tuple_inj a.t b.t) hv] at this
          · rw [List.pairwise_map, List.pairwise_map]
            exact h1.imp fun {x y} hxy => hxy
        have rs : RVs X.K g H ((sortIS ps).map isD) (out.map backV) := by
          rw [← es]
          exact RVs.of_keysS fun v hm => hx v (pm.mem_iff.mp hm)
        exact ⟨.ref _, upd H (s.heap.objs.size + 1) (.lst (out.map backV)), I.laid (t' := s.toks) (fun _ _ => PyProof.Rows.sortedAll_old) (Nat.le_succ _) ⟨by rw [pm.length_eq]; exact hz, out, n, vals_back h3, hn⟩, rfl, Gives.lst q' w rs (I.hok.fresh (Nat.le_succ _))⟩
    | some ps =>
      rw [e2] at e
      cases e
      have := twosOf_eq e2; subst this
      have hx := hv.prs
      obtain ⟨its, rv, hl, hz⟩ := I.list (show SqL X.K H a vs from .inl (.inl ha))
      obtain ⟨u, rfl, ru⟩ := vals1 r
      obtain rfl : u = Value.ref a := ru
      obtain ⟨e3, e4⟩ := refs_back rv fun x m => by
        obtain ⟨_, t, e, _⟩ := hx x m
        exact ⟨t, e⟩
      have hk : ∀ v ∈ its, ∃ p : Int × Int, ∃ t, backV v = V.ref t ∧ SqN X.K H t [.int p.1, .int p.2] := fun v hm => hx _ (by rw [e3]; exact List.mem_map.mpr ⟨_, hm, rfl⟩)
      refine SrtO.sorted_pairsO (k := fun u => keyV X.K H (backV u)) hl.isList (by rw [← rv.length]; exact hz) (fun v hm => ?_) fun h' d out h1 h2 kp hd hn => ?_
      · obtain ⟨t, e, ht⟩ := keyV_ok (hk v hm)
        obtain ⟨t', rfl⟩ := e4 v hm
        cases e
        obtain ⟨its2, r2, ⟨o, ho, hc, n, hd⟩, _⟩ := I.tuple ht.t
        obtain ⟨u1, u2, rfl, ri, rj⟩ := vals2 r2
        obtain ⟨t1, rfl⟩ := ri
        obtain ⟨t2, rfl⟩ := rj
        exact ⟨t, o, t1, t2, n, rfl, ho, hc, hd⟩
      · have h3 : ∀ u ∈ out, ∃ a, u = Value.ref a := fun u hu => e4 u (h2.perm.mem_iff.mp hu)
        obtain ⟨n, hn⟩ := hn
        have pm : (out.map backV).Perm vs := by rw [e3]; exact h2.perm.map backV
        have es : (out.map backV).map (keyV X.K H) = sortP ps := by
          refine sortP_uniq ?_ ?_
          · have := pm.map (keyV X.K H)
            rwa [RVs.keys (fun t xs ys a b => I.tuple_inj a.t b.t) hv] at this
          · rw [List.pairwise_map, List.pairwise_map]
            refine h1.imp fun {x y} hxy => ?_
            have := SrtO.lexB_no.mp hxy
            rw [leP_iff]; omega
        have rs : RVs X.K g H ((sortP ps).map twoD) (out.map backV) := by
          rw [← es]
          exact RVs.of_keys fun v hm => hx v (pm.mem_iff.mp hm)
        exact ⟨.ref d, upd H d (.lst (out.map backV)), I.laid (t' := s.toks) kp hd ⟨by rw [pm.length_eq]; exact hz, out, n, vals_back h3, hn⟩, rfl, Gives.lst q' w rs (I.hok.fresh hd)⟩
end
end DDS

set_option Elab.async false
set_option linter.all false
set_option maxRecDepth 100000
set_option maxHeartbeats 2000000
namespace DDS
open PySem PySem.Spec PyProof.Rows L2 DD
/-! ### t[::-1] -/
section
variable {prog : Program} {w : World} {A : Around} {E : Value → Shared → Prop} {s : Shared}
theorem places_rev (n : Nat) : Builtin.Slice.slicePlaces ((n : Int) - 1) (-1) (-1) = n := by
  unfold Builtin.Slice.slicePlaces
  rw [if_neg (by decide)]
  by_cases h : (n : Int) - 1 > -1
  · rw [if_pos h]
    have : ((n : Int) - 1 - -1 - 1) / (- -1) = (n : Int) - 1 := by
      have e : (- -1 : Int) = 1 := by decide
      rw [e, Int.ediv_one]; omega
    rw [this]; omega
  · rw [if_neg h]; omega
theorem sliceApplied_rev {sl : Addr} {t : Tok} {n : Nat} {Q : Int × Int × Nat → Shared → Prop} (hs : s.heap.IsSliceOf sl .none .none (.int (-1) t)) (h : Q ((n : Int) - 1, -1, n) s) : wpAny (model prog w) A (Builtin.Slice.sliceApplied (.ref sl) (pure (n : Int))) Q E s := by
  obtain ⟨os, hos, hcs, hds⟩ := id hs
  unfold Builtin.Slice.sliceApplied Builtin.Slice.sliceFields
  refine wpAny_bind (wpAny_bind (wpAny_field hos hds (x := .none) rfl (wpAny_bind (wpAny_field hos hds (x := .none) rfl (wpAny_bind (wpAny_field hos hds (x := .int (-1) t) rfl (wpAny_pure ?_)))))))
  refine wpAny_bind (slicePart_int ?_)
  show wpAny _ _ (if ((-1 : Int) == 0) = true then _ else _) _ _ s
  rw [if_neg (by decide)]
  refine wpAny_bind (slicePart_none (wpAny_bind (slicePart_none (wpAny_bind (wpAny_pure ?_)))))
  show wpAny _ _ (pure ((n : Int) - 1, (-1 : Int), Builtin.Slice.slicePlaces ((n : Int) - 1) (-1) (-1))) _ _ s
  rw [places_rev]
  exact wpAny_pure h
theorem pick_rev {α : Type} (xs : List α) : ((List.range xs.length).filterMap fun (m : Nat) => xs.toArray[((xs.length : Int) - 1 + (m : Int) * (-1)).toNat]?) = xs.reverse := by
  have key : ∀ k, k ≤ xs.length → ((List.range k).filterMap fun (m : Nat) => xs.toArray[((xs.length : Int) - 1 + (m : Int) * (-1)).toNat]?) = (xs.drop (xs.length - k)).reverse := by
    intro k
    induction k with
    | zero => intro _; simp
    | succ k ih =>
      intro hk
      rw [List.range_succ, List.filterMap_append, ih (by omega)]
      have e1 : ((xs.length : Int) - 1 + (k : Int) * (-1)).toNat = xs.length - (k + 1) := by omega
      have h1 : xs.length - (k + 1) < xs.length := by omega
      have e3 : xs.drop (xs.length - (k + 1)) = xs[xs.length - (k + 1)] :: xs.drop (xs.length - k) := by
        rw [List.drop_eq_getElem_cons h1]
        congr 2; omega
      rw [e3, List.reverse_cons]
      congr 1
      simp only [List.filterMap_cons, List.filterMap_nil, e1]
      rw [List.getElem?_toArray, List.getElem?_eq_getElem h1]
  have := key xs.length (Nat.le_refl _)
  simpa using this
theorem getItem_tuple_rev {t sl : Addr} {items : List Value} {tk : Tok} {Q : Value → Shared → Prop} (ht : IsTup s.heap t items.toArray) (hs : s.heap.IsSliceOf sl .none .none (.int (-1) tk))
    (h : Q (.ref s.heap.objs.size) { s with heap := s.heap.push { cls := .type "tuple", data := .seq items.reverse.toArray } }) (hsz : items.length ≤ sizeLine) : wpAny (model prog w) A (getItem (.ref t) (.ref sl)) Q E s := by
  have htake : sizeOk (.seq items.reverse.toArray) := by
    show items.reverse.toArray.size ≤ sizeLine
    rw [List.size_toArray, List.length_reverse]; exact hsz
  obtain ⟨os, hos, hcs, hds⟩ := id hs
  have hTs : s.TypeIs (.ref sl) "slice" := ⟨os, hos, hcs⟩
  unfold getItem
  try with_reducible refine wpAny_holding ?_
  first | refine wpAny_bind (wpAny_pure ?_) | skip
  refine wpAny_bind (wpAny_sequenceKey ht.typeIs (by decide) ?_)
  refine wpAny_bind (wpAny_callSpecial?_slot (name := Str.ofString "__getitem__") ht.typeIs PyProof.Rows.slot_tuple_getitem
    (wpAny_call_entry PyProof.Rows.slot_tuple_getitem ht.typeIs PyProof.Rows.entry_tuple_getitem ?_ (PyProof.Rows.args_tuple_getitem _ _)))
  show wpAny _ _ (Builtin.Tuple.tupleItemsOf (.ref t) >>= _) _ _ s
  refine wpAny_bind (PyProof.Rows.tupleItemsOf_ ht ?_)
  refine wpAny_bind (wpAny_typeOf hTs ?_)
  rw [if_pos (by decide)]
  refine wpAny_bind (sliceApplied_rev (n := items.toArray.size) hs ?_)
  have hno : ¬ ((((items.toArray.size : Nat) : Int) - 1 == 0 && (-1 : Int) == 1 && items.toArray.size == items.toArray.size) = true) := by
    intro q
    rw [Bool.and_eq_true, Bool.and_eq_true] at q
    exact absurd q.1.2 (by decide)
  show wpAny _ _ (if (((items.toArray.size : Nat) : Int) - 1 == 0 && (-1 : Int) == 1 && items.toArray.size == items.toArray.size) = true then _ else _) _ _ s
  have hp : ((List.range items.toArray.size).filterMap fun (m : Nat) => items.toArray[(((items.toArray.size : Nat) : Int) - 1 + (m : Int) * (-1)).toNat]?) = items.reverse := pick_rev items
  rw [if_neg hno, hp]
  first
    | exact wpAny_bind (m := Builtin.Tuple.tupleExact _) (wpAny_newObj_type (wpAny_pure ⟨_, rfl, wpAny_pure h⟩) htake)
    | exact wpAny_bind (m := Builtin.Tuple.tupleExact _) (wpAny_newObj_type (wpAny_bind (wpAny_pure (wpAny_pure ⟨_, rfl, wpAny_pure h⟩))) htake)
    | exact wpAny_bind (wpAny_bind (m := Builtin.Tuple.tupleExact _) (wpAny_newObj_type (wpAny_pure (wpAny_pure ⟨_, rfl, wpAny_pure h⟩)) htake))
    | exact wpAny_bind (wpAny_bind (m := Builtin.Tuple.tupleExact _) (wpAny_newObj_type (wpAny_pure ⟨_, rfl, wpAny_pure h⟩) htake))
end
section
variable {X : Cx} {S : Sg} {pos p2 : Pos} {pa pc : Expr} {a : E}
/-- a list's items, turned about -/
theorem pick_list_rev (items : List Value) : slicePick items.toArray none none (some (-1)) = items.reverse.toArray := by
  unfold slicePick
  congr 1
  have e : sliceRange (sliceBounds none none (some (-1)) items.toArray.size).1 (sliceBounds none none (some (-1)) items.toArray.size).2.1 (sliceBounds none none (some (-1)) items.toArray.size).2.2 = (List.range items.length).map fun (m : Nat) => ((items.length : Int) - 1 + (m : Int) * (-1)).toNat := by
    have e1 : sliceBounds none none (some (-1)) items.toArray.size = ((items.length : Int) - 1, -1, -1) := by
      simp [sliceBounds]
    rw [e1]
    simp only [sliceRange]
    have c : (if (items.length : Int) - 1 > -1 then ((items.length : Int) - 1 - -1 - -1 - 1) / (- -1) else 0).toNat = items.length := by
      split
      · rw [show (- -1 : Int) = 1 by decide, Int.ediv_one]; omega
      · omega
    rw [if_neg (by decide), c]
    refine List.map_congr_left fun m _ => ?_
    congr 1; omega
  rw [e, List.filterMap_map]
  exact pick_rev items
/-- t[::c], c a written -1 -/
theorem pe_rev {te : TE} (he : PE X pa te) (hc : PE X pc (tC (.int (-1)))) : PE X (.Subscript pa (.Slice none none (some pc) p2) pos) (fun σ H Q => te σ H fun x H1 => ∃ t xs, x = .ref t ∧ ((SqT X.K H1 t xs ∧ NewT H1 xs.reverse Q) ∨ (SqL X.K H1 t xs ∧ ∀ p, H1 p = none → Q (.ref p) (upd H1 p (.lst xs.reverse))))) := by
  refine ⟨fun pins s σ H Q I h => ?_⟩
  refine Subscript_ (thn (he.run pins s σ H _ I h) fun v s1 ⟨x, H1, I1, r1, q1⟩ => ?_)
  obtain ⟨t, xs, rfl, q1⟩ := q1
  cases r1
  refine wpAny_Slice ?_
  rw [evalPart_none]
  refine wpAny_pure ?_
  refine wpAny_pure ?_
  rw [evalPart_some]
  refine thn (hc.run pins s1 σ H1 (fun v H2 => v = .int (-1) ∧ H2 = H1) I1 ⟨rfl, rfl⟩) fun vc s3 ⟨y, H3, I3, ry, ey, eH⟩ => ?_
  subst ey eH
  obtain ⟨tk, rfl⟩ := ry
  have I4 : Inv X pins σ H3 { s3 with heap := s3.heap.push { cls := .type "slice", data := .fields #[.none, .none, .int (-1) tk] } } := I3.kept (t' := s3.toks) fun b ob q => Heap.get?_push_of_some _ q
  show wpAny (model X.prog X.w) X.A (subscriptTail pa (.Slice none none (some pc) p2) (.ref t) (.ref s3.heap.objs.size)) (EP X pins σ Q) X.xe { s3 with heap := s3.heap.push { cls := .type "slice", data := .fields #[.none, .none, .int (-1) tk] } }
  rcases q1 with ⟨ht, q⟩ | ⟨ht, q⟩
  · obtain ⟨its, r, hT, hz⟩ := I4.tuple ht
    have hlen : its.length = xs.length := r.length.symm
    refine tail_any (ops := [.ref t, .ref s3.heap.objs.size]) hT.typeIs PyProof.Rows.slot_tuple_getitem.lookup ?_ (by with_unfolding_all rfl)
    refine getItem_tuple_rev hT (Heap.IsSliceOf.new ..) ?_ (by rw [hlen]; exact hz)
    exact newT I4 r.reverse (by rw [List.length_reverse]; exact hz) q
  · obtain ⟨its, r, hT, hz⟩ := I4.list ht
    have hlen : its.length = xs.length := r.length.symm
    refine tail_any (ops := [.ref t, .ref s3.heap.objs.size]) hT.isList.typeIs slot_list_getitem.lookup ?_ (by with_unfolding_all rfl)
    refine wpAny_getItem_list_slice (lo := none) (hi := none) (st := some (-1)) hT.isList (Heap.IsSliceOf.new ..) .none .none (.int _ _) (by decide) ?_ (by rw [List.size_toArray, hlen]; exact hz)
    rw [pick_list_rev]
    refine ⟨.ref _, _, I4.laid (t' := s3.toks) (o := .lst xs.reverse) (fun b ob q => Heap.get?_push_of_some _ q) (Nat.le_refl _) ?_, rfl, q _ (I4.hok.fresh (Nat.le_refl _))⟩
    exact ⟨by rw [List.length_reverse]; exact hz, _, 0, r.reverse, Heap.get?_push_size _ rfl⟩
theorem RVs.reverse {K : PySem.W.Frag} {g : Gh} {H : Hp} {ds : List D} {vs : List V} (h : RVs K g H ds vs) : RVs K g H ds.reverse vs.reverse := by
  induction ds generalizing vs with
  | nil => rw [show vs = [] from h]; rfl
  | cons d ds ih =>
    obtain ⟨v, ws, rfl, h1, h2⟩ := h
    simp only [List.reverse_cons]
    exact (ih h2).append ⟨v, [], rfl, h1, rfl⟩
theorem e_rev (hK : X.K = S.K) (ha : PE X pa (tB S a)) (hc : PE X pc (tC (.int (-1)))) : PE X (.Subscript pa (.Slice none none (some pc) p2) pos) (tN S (.rev a)) := by
  refine (pe_rev ha hc).mono fun σ H Q ⟨g, st, env, at_, h⟩ => ?_
  rw [hK]
  refine tE_imp (lem1 (rel1 := rB S.K) (a := a) (f := fun x st => R.of (revD x) st) at_ up_N h) fun x H1 ⟨g, st, d, a2, r1, h2⟩ => ?_
  cases d <;> try exact h2.elim
  · rename_i ds
    obtain ⟨t, vs, rfl, e, r⟩ := r1
    refine ⟨t, vs, rfl, .inl ⟨e.t, fun p o ho hp => ?_⟩⟩
    exact h2 g _ _ (Step.alloc hp) (a2.2.1.alloc hp) ⟨p, _, rfl, SqN.new ho, (RVs.reverse r).stp (Stp.alloc hp)⟩
  · rename_i ds
    obtain ⟨t, vs, rfl, _, e, r⟩ := r1
    refine ⟨t, vs, rfl, .inr ⟨.inl (.inl e), fun p hp => ?_⟩⟩
    exact h2 g _ _ (Step.alloc hp) (a2.2.1.alloc hp) ⟨p, _, rfl, upd_same, (RVs.reverse r).stp (Stp.alloc hp), a2.2.1.newF hp, a2.2.1.newk hp, hp⟩
end
end DDS

set_option Elab.async false
set_option linter.all false
set_option maxRecDepth 100000
set_option maxHeartbeats 2000000
namespace DDS
open PySem PySem.Spec PyProof.Rows L2 DD
/-! ### {k1: a, k2: b}.get(k), s.upper() -/
section
variable {S : Sg} {σ : Sl} {g ga : Gh} {H Ha : Hp} {α β γ δ : Type}
/-- what comes next, told of the first place -/
theorem Post.bind0 {r : R α} {f : α → Store → R γ} {rel : Rl γ δ} {rel1 : Rl α β} {Q : δ → Hp → Prop} (s0 : Step g H ga Ha) (h : Post S σ g H (r.bind f) rel Q) :
    Post S σ ga Ha r rel1 fun x H1 => ∃ g1 st1 d, Step ga Ha g1 H1 ∧ Wf S.K g1 H1 st1 ∧ rel1 Ha g1 H1 d x ∧ Post S σ g H (f d st1) rel Q := by
  cases r with
  | ok d st' => exact fun g' H' v s' w' q => ⟨g', st', d, s', w', q, h⟩
  | exc c st' => exact fun g' H' s' w' => h g' H' (s0.trans s') w'
  | bad => exact h
end
section
variable {K : PySem.W.Frag} {g g1 : Gh} {H H1 : Hp} {st : Store} {p : Addr} {o : HO}
/-- a new thing that is no tuple is written anew -/
theorem Stp.rew {kvs : List (Key × V)} (hF : ¬ g.F p) (hp : H p = some (.dK kvs)) : Stp g H g (upd H p o) where
  F := fun _ h => h
  ks := List.prefix_rfl
  fz := fun a u hFa e => by
    rw [upd_ne (fun z => hF (by rw [← z]; exact hFa))]; exact e
  tp := fun a u e t => by
    by_cases z : a = p
    · subst z; rw [hp] at e; cases e; exact t.elim
    · rw [upd_ne z]; exact e
  lv := fun a u e => by
    by_cases z : a = p
    · subst z; exact ⟨o, upd_same⟩
    · exact ⟨u, by rw [upd_ne z]; exact e⟩
theorem Wf.rew {kvs : List (Key × V)} (w : Wf K g H st) (hF : ¬ g.F p) (hk : p ∉ g.ks) (hp : H p = some (.dK kvs)) : Wf K g (upd H p o) st where
  len := w.len
  nd := w.nd
  cell := fun k c a e1 e2 => (w.cell k c a e1 e2).stp (Stp.rew hF hp) fun u e => by rw [upd_ne (fun z => hk (by rw [← z]; exact List.mem_of_getElem? e2))]; exact e
  nF := w.nF
  lv := fun a ha => by
    obtain ⟨u, e⟩ := w.lv a ha
    exact ⟨u, by rw [upd_ne (fun z => hF (by rw [← z]; exact ha))]; exact e⟩
theorem Step.rew (s : Step g H g1 H1) (hp : H p = none) : Step g H g1 (upd H1 p o) where
  F := s.F
  ks := s.ks
  kp := fun a u e ha => by
    rw [upd_ne (fun z => by subst z; rw [hp] at e; cases e)]; exact s.kp a u e ha
  lv := fun a u e => by
    rw [upd_ne (fun z => by subst z; rw [hp] at e; cases e)]; exact s.lv a u e
  nF := s.nF
  nk := s.nk
end
theorem val_two {k1 k2 z : Str} {v u : V} : (valV (mergeK [] [(.inr k1, v), (.inr k2, u)]) (.inr z)).getD .non = if z = k2 then u else if z = k1 then v else .non := by
  have e1 : putK ([] : List (Key × V)) (.inr k1) v = [(.inr k1, v)] := rfl
  simp only [mergeK, List.foldl, e1]
  by_cases h : k1 = k2
  · subst h
    have e2 : putK [((.inr k1 : Key), v)] (.inr k1) u = [(.inr k1, u)] := by simp [putK]
    rw [e2]
    by_cases hz : z = k1
    · subst hz; rw [valV_pos rfl, if_pos rfl]; rfl
    · have hz' : ¬ ((.inr k1 : Key) = .inr z) := fun e => hz (Sum.inr.inj e).symm
      rw [valV_neg hz', if_neg hz, if_neg hz]; rfl
  · have h' : ¬ ((.inr k1 : Key) = .inr k2) := fun e => h (Sum.inr.inj e)
    have e2 : putK [((.inr k1 : Key), v)] (.inr k2) u = [(.inr k1, v), (.inr k2, u)] := by simp [putK, h]
    rw [e2]
    by_cases h1 : z = k1
    · subst h1; rw [valV_pos rfl, if_neg h, if_pos rfl]; rfl
    · have h1' : ¬ ((.inr k1 : Key) = .inr z) := fun e => h1 (Sum.inr.inj e).symm
      rw [valV_neg h1']
      by_cases h2 : z = k2
      · subst h2; rw [valV_pos rfl, if_pos rfl]; rfl
      · have h2' : ¬ ((.inr k2 : Key) = .inr z) := fun e => h2 (Sum.inr.inj e).symm
        rw [valV_neg h2', if_neg h2, if_neg h1]; rfl
section
variable {X : Cx} {S : Sg} {pos apos dpos q1 q2 : Pos} {n1 n2 : Nat} {pa pb pk : Expr} {a b k : E} {k1 k2 : Str}
theorem e_dg2 (hu : X.A.units + 65 < cLine) (ha : PE X pa (tF S a)) (hb : PE X pb (tF S b)) (hk : PE X pk (tB S k))
    (m : M1 X (.Dict [some (.Constant (.str k1) n1 q1), some (.Constant (.str k2) n2 q2)] [pa, pb] dpos) "get" apos pk pos) :
    PE X (.Call (.Attribute (.Dict [some (.Constant (.str k1) n1 q1), some (.Constant (.str k2) n2 q2)] [pa, pb] dpos) "get" apos) [pk] [] pos) (tF S (.dg2 k1 k2 a b k)) := by
  refine (pe_dget1 (by omega) (pe_disp (pps_cons pe_str ha (pps_cons pe_str hb pps_nil)) rfl rfl (by simp) (by simp)) hk m).mono fun σ H Q ⟨g, st, env, at_, h⟩ => ?_
  intro p hp
  have a1 : At S σ (upd H p (.dK [])) g st env := at_.step (Step.alloc hp) (at_.2.1.alloc hp)
  have nk := at_.2.1.newk hp
  have nF := at_.2.1.newF hp
  refine ⟨g, st, env, a1, (Post.bind0 (rel1 := rF S.K) (Step.alloc hp) h).mono fun g' H' d v st' s w r q => ?_⟩
  obtain ⟨g1, st1, d1, s1, w1, r1, h1⟩ := q g' H' v s w r
  refine ⟨g1, st1, env, a1.step s1 w1, (Post.bind0 (rel1 := rF S.K) ((Step.alloc hp).trans s1) h1).mono fun g' H'' d v' st' s w r q => ?_⟩
  obtain ⟨g2, st2, d2, s2, w2, r2, h2⟩ := q g' H'' v' s w r
  have e2 : H'' p = some (.dK []) := (s1.trans s2).kp p _ upd_same nk
  have nF2 : ¬ g2.F p := fun z => by
    rcases (s1.trans s2).nF p z with z | z
    · exact nF z
    · rw [upd_same] at z; cases z
  have nk2 : p ∉ g2.ks := fun z => by
    rcases (s1.trans s2).nk p z with z | z
    · exact nk z
    · rw [upd_same] at z; cases z
  refine ⟨e2, [(.inr k1, v), (.inr k2, v')], rfl, by simp, p, rfl, .inl ⟨_, .inl upd_same⟩, ?_⟩
  have sA : Step g H g2 (upd H'' p (.dK (mergeK [] [(.inr k1, v), (.inr k2, v')]))) := ((Step.alloc hp).trans (s1.trans s2)).rew hp
  have wA : Wf S.K g2 (upd H'' p (.dK (mergeK [] [(.inr k1, v), (.inr k2, v')]))) st2 := w2.rew nF2 nk2 e2
  have tA : Stp g2 H'' g2 (upd H'' p (.dK (mergeK [] [(.inr k1, v), (.inr k2, v')]))) := Stp.rew nF2 e2
  refine ⟨g2, st2, env, at_.step sA wA, (Post.bind (rel1 := rB S.K) up_F (Post.step up_F sA h2)).mono fun g' H3 d y st' s w r q => ?_⟩
  obtain ⟨g3, st3, d3, s3, w3, r3, h3⟩ := q g' H3 y s w r
  cases d3 with
  | str z =>
    cases r3
    have e3 : H3 p = some (.dK (mergeK [] [(.inr k1, v), (.inr k2, v')])) := s3.kp p _ upd_same nk2
    refine ⟨_, DGet.k (k := .inr z) e3, ?_⟩
    rw [val_two]
    refine h3 g3 H3 _ (Step.refl _ _) w3 ?_
    have f1 : RV S.K g3 H3 d1 v := RV.stp (s3.stp wA) (RV.stp tA (RV.stp (s2.stp w1) r1))
    have f2 : RV S.K g3 H3 d2 v' := RV.stp (s3.stp wA) (RV.stp tA r2)
    by_cases z2 : z = k2
    · simp only [z2, if_true]; exact f2
    · by_cases z1 : z = k1
      · simp only [if_neg z2, if_pos z1]; exact f1
      · simp only [if_neg z2, if_neg z1]; rfl
  | _ => exact h3.elim
theorem up_eq {s u : Str} (h : upT.lookup s = some u) : Txt.upper s = u ∧ s.length ≤ 5592405 := by
  have : (s, u) ∈ upT := by
    unfold upT at h ⊢
    simp only [List.lookup] at h
    simp only [List.mem_cons, List.not_mem_nil, or_false, Prod.mk.injEq]
    repeat' split at h
    all_goals first | cases h | skip
    all_goals rename_i e; rw [beq_iff_eq] at e; simp [e]
  unfold upT at this
  simp only [List.mem_cons, List.not_mem_nil, or_false, Prod.mk.injEq] at this
  rcases this with ⟨rfl, rfl⟩ | ⟨rfl, rfl⟩ | ⟨rfl, rfl⟩ | ⟨rfl, rfl⟩ <;> exact ⟨by decide +kernel, by decide +kernel⟩
theorem e_upper (ha : PE X pa (tB S a)) (hbase : attributeBase pa "upper" X.env (eval pa X.env) = eval pa X.env) (hline : (apos.endLine == pos.line) = true) :
    PE X (.Call (.Attribute pa "upper" apos) [] [] pos) (tF S (.m0 .upper a)) := by
  refine (pe_upper ha hbase hline).mono fun σ H Q ⟨g, st, env, at_, h⟩ => ?_
  refine tE_imp (lem1 (rel1 := rB S.K) (a := a) (f := fun x st => R.of (me0 .upper x) st) at_ up_F h) fun x H1 ⟨g, st, d, a2, r1, h2⟩ => ?_
  cases d <;> try exact h2.elim
  rename_i z
  cases r1
  cases e : upT.lookup z with
  | none => simp only [me0, e] at h2; exact h2.elim
  | some u =>
    obtain ⟨e1, e2⟩ := up_eq e
    simp only [me0, e] at h2
    refine ⟨⟨_, rfl⟩, z, rfl, rfl, e2, ?_⟩
    rw [e1]
    exact h2 g H1 _ (Step.refl _ _) a2.2.1 rfl
end
end DDS

set_option Elab.async false
set_option linter.all false
set_option maxRecDepth 100000
set_option maxHeartbeats 2000000
/-! min of pairs, t.index(i), list(range(n)) -/
namespace DDS
open PySem PySem.Spec PyProof.Rows L2 DD
theorem lt_two (p q : Int × Int) : PySem.W.dataLt (toP (twoD p)) (toP (twoD q)) = !leP q p := by
  obtain ⟨a, b⟩ := p
  obtain ⟨c, d⟩ := q
  show PyProof.Rows.lexLt itemOrd [.inl 1, .inl a, .inl 1, .inl b, .inl 0] [.inl 1, .inl c, .inl 1, .inl d, .inl 0] = _
  unfold leP
  rw [lex_self (O := itemOrd)]
  by_cases h : a = c
  · subst h
    rw [lex_self (O := itemOrd), lex_self (O := itemOrd), if_pos rfl]
    by_cases h2 : b = d
    · subst h2
      rw [lex_self (O := itemOrd), lex_self (O := itemOrd)]
      simp [PyProof.Rows.lexLt]
    · rw [lex_diff (O := itemOrd) (by intro e; exact h2 (Sum.inl.inj e))]
      show decide (b < d) = !decide (d ≤ b)
      by_cases h3 : b < d
      · rw [decide_eq_true h3, decide_eq_false (by omega)]; rfl
      · rw [decide_eq_false h3, decide_eq_true (by omega)]; rfl
  · rw [lex_diff (O := itemOrd) (by intro e; exact h (Sum.inl.inj e)), if_neg (Ne.symm h)]
    show decide (a < c) = !decide (c < a)
    by_cases h3 : a < c
    · rw [decide_eq_true h3, decide_eq_false (by omega)]; rfl
    · rw [decide_eq_false h3, decide_eq_true (by omega)]; rfl
theorem min_two : ∀ (ps : List (Int × Int)) (p : Int × Int), PySem.W.minD (toP (twoD p)) (ps.map fun p => toP (twoD p)) = toP (twoD (ps.foldl (fun a y => if leP a y then a else y) p))
  | [], _ => rfl
  | q :: ps, p => by
    have e : (if PySem.W.dataLt (toP (twoD q)) (toP (twoD p)) = true then toP (twoD q) else toP (twoD p)) = toP (twoD (if leP p q then p else q)) := by
      rw [lt_two]
      cases leP p q <;> rfl
    have := min_two ps (if leP p q then p else q)
    unfold PySem.W.minD at this ⊢
    rw [List.map_cons, List.foldl_cons, List.foldl_cons, e]
    exact this
theorem toP_two {p q : Int × Int} (h : toP (twoD p) = toP (twoD q)) : p = q := by
  obtain ⟨a, b⟩ := p
  obtain ⟨c, d⟩ := q
  have h' : PyData.tuple [.int a, .int b] = PyData.tuple [.int c, .int d] := h
  injection h' with h'
  injection h' with h1 h2
  injection h1 with h1
  injection h2 with h2 _
  injection h2 with h2
  rw [h1, h2]
theorem toPs_map : ∀ ds : List D, toPs ds = ds.map toP
  | [] => rfl
  | d :: ds => by rw [toPs, toPs_map ds]; rfl
section
variable {X : Cx}
theorem call_b_minp (hc : X.calm = true) (hu : X.A.units + 65 < cLine) : CallR X (.builtin "min") (rB1 X.K .minp) := by
  intro pins s σ H xs us Q I r h
  obtain ⟨g, st, d, x, rfl, w, hx, q⟩ := h
  cases d <;> first | exact Gives.no q | skip
  rename_i ds
  obtain ⟨a, vs, rfl, _, ha, hv⟩ := hx
  obtain ⟨ps, e, q2⟩ := Gives.bind (show Gives X.K g H st ((twosOf ds).bind fun ps => (minP ps).map twoD) Q from q)
  have := twosOf_eq e; subst this
  cases ps with
  | nil => exact Gives.no q2
  | cons p ps =>
    obtain ⟨its, rv, hl, hz⟩ := I.list (show SqL X.K H a vs from .inl (.inl ha))
    rw [Vals.ref1 r]
    have hd : DpAll X.K H vs (toPs ((p :: ps).map twoD)) := RVs.dp (n := 3) (fun x hm => by
      obtain ⟨y, _, rfl⟩ := List.mem_map.mp hm
      rfl) hv
    obtain ⟨as, hr⟩ := Dp.readsAll I _ _ _ hd rv
    rw [toPs_map, List.map_map, List.map_cons] at hr
    have dp : ∀ x ∈ (p :: ps), (toP (twoD x)).depth = 1 := fun x _ => rfl
    refine PySem.W.min_list_data (x := toP (twoD p)) (xs := ps.map fun p => toP (twoD p)) (I.ok.hd hc) hl.isList (by simpa [Function.comp_def] using hr) ⟨fun x hm y hm' => ?_, fun x hm => ?_⟩ ?_ fun i v h' tk bs hv' hrd hk => ?_
    · have hm : x ∈ (p :: ps).map fun p => toP (twoD p) := hm
      have hm' : y ∈ (p :: ps).map fun p => toP (twoD p) := hm'
      obtain ⟨_, _, rfl⟩ := List.mem_map.mp hm
      obtain ⟨_, _, rfl⟩ := List.mem_map.mp hm'
      rfl
    · have hm : x ∈ (p :: ps).map fun p => toP (twoD p) := hm
      obtain ⟨_, _, rfl⟩ := List.mem_map.mp hm
      intro e; cases e
    · have : ∀ l : List (Int × Int), PyData.depthAll (l.map fun p => toP (twoD p)) ≤ 1 := fun l => by
        induction l with
        | nil => exact Nat.zero_le _
        | cons y l ih => exact Nat.max_le.mpr ⟨Nat.le_refl _, ih⟩
      have := this (p :: ps)
      rw [List.map_cons] at this
      omega
    · rw [min_two] at hrd
      obtain ⟨v', e1, e2⟩ : ∃ v', vs[i]? = some v' ∧ RelV v' v := by
        have hi : its[i]? = some v := by simpa using hv'
        have hl : i < vs.length := by rw [rv.length]; exact (List.getElem?_eq_some_iff.mp hi).1
        obtain ⟨u, e1, e2⟩ := rv.get (List.getElem?_eq_getElem hl)
        rw [hi] at e1
        cases e1
        exact ⟨_, List.getElem?_eq_getElem hl, e2⟩
      obtain ⟨d, f1, f2⟩ := hv.get' e1
      rw [List.getElem?_map] at f1
      obtain ⟨y, f3, rfl⟩ := Option.map_eq_some_iff.mp f1
      obtain ⟨bs', hrd'⟩ := Dp.reads (I.kept (t' := tk) hk) _ _ _ (RV.dp (n := 3) rfl f2) e2
      obtain ⟨e4, _⟩ := PyProof.Rows.reads_det (fun _ _ e _ => e) hrd hrd'
      have e5 := toP_two e4
      obtain ⟨d', ed, q'⟩ := q2
      cases ed
      refine ⟨v', H, I.kept hk, e2, q' g H v' (Step.refl _ _) w ?_⟩
      rw [← e5]
      exact f2
end
section
variable {S : Sg} {X : Cx} {pa pb : Expr} {a b : E} {pos : Pos}
theorem intsOf_some {ds : List D} {is : List Int} (h : intsOf ds = some is) : ds = is.map .int := intsOf_eq h
theorem RVs.intv {K : PySem.W.Frag} {g : Gh} {H : Hp} : ∀ {is : List Int} {vs : List V}, RVs K g H (is.map .int) vs → vs = is.map V.int
  | [], vs, h => h
  | i :: is, vs, h => by
    obtain ⟨v, ws, rfl, h1, h2⟩ := h
    cases h1
    rw [RVs.intv h2]; rfl
theorem e_index {apos : Pos} (hK : X.K = S.K) (hs : notStar pb = true) (ha : PE X pa (tB S a)) (hb : PE X pb (tB S b)) (hbase : attributeBase pa "index" X.env (eval pa X.env) = eval pa X.env) (hline : (apos.endLine == pos.line) = true)
    (few : ((backTo pos (starEach [pb] X.env)).all (fun x => !x.1) && (backToKw pos (keywordEach [] X.env)).all (fun x => x.1.isSome)
      && decide (([pb] : List Expr).length + ([] : List Keyword).length + (if ([] : List Keyword).isEmpty then 0 else 1) < 30)) = true) :
    PE X (.Call (.Attribute pa "index" apos) [pb] [] pos) (tF S (.m1 .index a b)) := by
  refine (pe_bmN PySem.F.plainAttrs_tuple PySem.F.slot_tuple_index PySem.F.type_tuple_index mt_indexN ha (PA1 hs hb) hbase few hline (star_cons hs) rfl).mono fun σ H Q ⟨g, st, env, at_, h⟩ => ?_
  rw [hK]
  refine tE_imp (lem1 (rel1 := rB S.K) (a := a) (f := fun x st => match x with
    | .tup xs => (evE S.cl b env st).bind fun y st => R.of (me1 .index (.tup xs) y) st
    | _ => .bad) at_ up_F h) fun x H1 ⟨g1, st1, d, a1, r1, h1⟩ => ?_
  cases d <;> try exact h1.elim
  rename_i ds
  obtain ⟨t, vs, rfl, e, r⟩ := id r1
  refine ⟨t, vs, rfl, e, ?_⟩
  refine ⟨g1, st1, env, a1, (Post.bind (rel1 := rB S.K) up_F h1).mono fun g' H' d2 v st' s w r2 k => ?_⟩
  obtain ⟨g2, st2, d3, s2, w2, r3, h2⟩ := k g' H' v s w r2
  cases d3 <;> try exact h2.elim
  rename_i z
  cases r3
  cases e3 : intsOf ds with
  | none => simp only [me1, e3, Option.bind_none] at h2; exact h2.elim
  | some is =>
    have := intsOf_eq e3; subst this
    cases e4 : is.findIdx? (· == z) with
    | none => simp only [me1, e3, e4, Option.bind_some, Option.map_none] at h2; exact h2.elim
    | some j =>
      simp only [me1, e3, e4, Option.bind_some, Option.map_some] at h2
      have ev := RVs.intv r
      subst ev
      obtain ⟨hj, h3, h4⟩ := List.findIdx?_eq_some_iff_getElem.mp e4
      refine ⟨t, is, z, j, rfl, rfl, ?_, ?_, fun m hm => ?_, ?_⟩
      · exact (Stp.sqn (s2.stp a1.2.1) e).t
      · rw [List.getElem?_eq_getElem hj]
        exact congrArg some (by simpa using h3)
      · have hm' : m < is.length := by omega
        have := h4 m hm
        rw [List.getElem?_eq_getElem hm']
        intro e5
        exact this (by simpa using Option.some.inj e5)
      · exact h2 g2 H' _ (Step.refl _ _) w2 rfl
/-- list(range(n)) -/
theorem e_lof1 {p p2 pos2 : Pos} (hc : X.calm = true) (hg : Gl X "list") (hm : X.mg "list" = none) (hg2 : Gl X "range") (hm2 : X.mg "range" = none) (hs : notStar pa = true) (ha : PE X pa (tF S a)) :
    PE X (.Call (.Name "list" p) [.Call (.Name "range" p2) [pa] [] pos2] [] pos) (tN S (.lof (.r1 a))) := by
  refine (pe_listRg hc hg hm (prg_1 hg2 hm2 ha (star_cons hs)) rfl).mono fun σ H Q ⟨g, st, env, at_, h⟩ => ?_
  have h' : Post S σ g H ((evE S.cl a env st).bind fun x st => lined (match x with
    | .int i => R.of (rangeI 0 i 1) st
    | _ => .bad)) (rN S.K) Q := by
    simp only [evE, evI, lined] at h
    revert h; cases evE S.cl a env st <;> exact id
  refine tE_imp (lem1 (rel1 := rF S.K) (a := a) at_ up_N h') fun x H1 ⟨g1, st1, d, a1, r1, h1⟩ => ?_
  cases d <;> try exact h1.elim
  rename_i i
  cases r1
  have l2 : lim = 1000000 := rfl
  by_cases hb : (0 : Int).natAbs ≤ lim ∧ i.natAbs ≤ lim ∧ (0 : Int) < 1 ∧ (1 : Int) ≤ lim
  · have e : rangeI 0 i 1 = some ((List.range (i - 0).toNat).map fun (k : Nat) => D.int (0 + k)) := by
      unfold rangeI
      rw [if_pos hb]
      have e1 : ((i - 0 + 1 - 1) / 1).toNat = (i - 0).toNat := by rw [Int.ediv_one]; congr 1; omega
      rw [e1]
      refine congrArg some (List.map_congr_left fun k _ => ?_)
      rw [Int.mul_one]
    simp only [e, R.of_some, lined, R.bind_ok] at h1
    split at h1
    · refine ⟨i, rfl, ⟨by omega, by omega, by omega, by omega, by omega⟩, fun q hq => ?_⟩
      have rv : RVs S.K g1 H1 ((List.range (i - 0).toNat).map fun (k : Nat) => D.int (0 + k)) (rgV 0 i) := by
        unfold rgV
        generalize List.range (i - 0).toNat = l
        induction l with
        | nil => rfl
        | cons k l ih => exact ⟨_, _, rfl, rfl, ih⟩
      exact h1 g1 _ _ (Step.alloc hq) (a1.2.1.alloc hq) ⟨q, _, rfl, upd_same, rv.stp (Stp.alloc hq), a1.2.1.newF hq, a1.2.1.newk hq, hq⟩
    · exact h1.elim
  · have e : rangeI 0 i 1 = none := by unfold rangeI; rw [if_neg hb]
    simp only [e] at h1
    exact h1.elim
end
end DDS

set_option Elab.async false
set_option linter.all false
set_option maxRecDepth 100000
set_option maxHeartbeats 2000000
/-! sorted(set(rows)) of rows that rise, sorted of the rules' words -/
namespace DDS
open PySem PySem.Spec PyProof.Rows L2 DD
theorem code_eq : ∀ ns : List Int, TS.code 64 ns = code64 ns
  | [] => rfl
  | d :: r => by
    show d * 64 ^ r.length + TS.code 64 r = d * 64 ^ r.length + code64 r
    rw [code_eq r]
theorem strict_eq {α : Type} (f : α → Int) : ∀ {l m : List α}, l.Pairwise (fun a b => f a < f b) → m.Pairwise (fun a b => f a < f b) → (∀ x, x ∈ l ↔ x ∈ m) → l = m
  | [], [], _, _, _ => rfl
  | [], y :: m, _, _, h => by have := (h y).mpr (by simp); cases this
  | x :: l, [], _, _, h => by have := (h x).mp (by simp); cases this
  | x :: l, y :: m, hl, hm, h => by
    obtain ⟨a1, a2⟩ := List.pairwise_cons.mp hl
    obtain ⟨b1, b2⟩ := List.pairwise_cons.mp hm
    have e : x = y := by
      rcases List.mem_cons.mp ((h x).mp (by simp)) with e | hx
      · exact e
      · rcases List.mem_cons.mp ((h y).mpr (by simp)) with e | hy
        · exact e.symm
        · have := b1 x hx
          have := a1 y hy
          omega
    subst e
    congr 1
    refine strict_eq f a2 b2 fun z => ⟨fun hz => ?_, fun hz => ?_⟩
    · rcases List.mem_cons.mp ((h z).mp (by simp [hz])) with e | q
      · subst e; have := a1 z hz; omega
      · exact q
    · rcases List.mem_cons.mp ((h z).mpr (by simp [hz])) with e | q
      · subst e; have := b1 z hz; omega
      · exact q
theorem inj_of_strict {α : Type} (f : α → Int) : ∀ {l : List α}, l.Pairwise (fun a b => f a < f b) → ∀ x ∈ l, ∀ y ∈ l, f x = f y → x = y
  | [], _, x, hx, _, _, _ => by cases hx
  | z :: l, h, x, hx, y, hy, e => by
    obtain ⟨a1, a2⟩ := List.pairwise_cons.mp h
    rcases List.mem_cons.mp hx with e1 | h1
    · rcases List.mem_cons.mp hy with e2 | h2
      · rw [e1, e2]
      · have := a1 y h2; rw [e1] at e; omega
    · rcases List.mem_cons.mp hy with e2 | h2
      · have := a1 x h1; rw [e2] at e; omega
      · exact inj_of_strict f a2 x h1 y h2 e
/-- the values of rows -/
theorem RVs.rows {K : PySem.W.Frag} {g : Gh} {H : Hp} : ∀ {ds : List D} {vs : List V} {ks : List (List Int)}, DD.rowsOf ds = some ks → RVs K g H ds vs → ∃ ps : List (Addr × List Int), vs = ps.map (fun p => V.ref p.1) ∧ ps.map (·.2) = ks ∧ ∀ p ∈ ps, SqT K H p.1 (p.2.map V.int)
  | [], vs, ks, e, h => by
    cases e
    rw [show vs = [] from h]
    exact ⟨[], rfl, rfl, fun _ hp => by cases hp⟩
  | d :: ds, vs, ks, e, h => by
    obtain ⟨v, ws, rfl, h1, h2⟩ := h
    cases d <;> try cases e
    rename_i es
    simp only [DD.rowsOf] at e
    cases e1 : intsOf es with
    | none => rw [e1] at e; cases e
    | some is =>
      rw [e1] at e
      cases e2 : DD.rowsOf ds with
      | none => simp only [e2] at e; cases e
      | some ks' =>
        simp only [e2] at e
        cases e
        obtain ⟨ps, q1, q2, q3⟩ := RVs.rows e2 h2
        have := intsOf_eq e1; subst this
        obtain ⟨a, us, rfl, ha, hv⟩ := h1
        have := RVs.intv hv
        subst this
        refine ⟨(a, is) :: ps, by rw [q1]; rfl, by rw [List.map_cons, q2], fun p hp => ?_⟩
        rcases List.mem_cons.mp hp with rfl | hp
        · exact ha.t
        · exact q3 p hp
section
variable {S : Sg} {X : Cx} {pa : Expr} {a : E} {pos : Pos}
theorem e_sset {p p2 pos2 : Pos} (hK : X.K = S.K) (hc : X.calm = true) (hu : X.A.units + 65 < cLine) (hg : Gl X "sorted") (hm : X.mg "sorted" = none) (hg2 : Gl X "set") (hm2 : X.mg "set" = none) (hs : notStar pa = true) (ha : PE X pa (tB S a)) :
    PE X (.Call (.Name "sorted" p) [.Call (.Name "set" p2) [pa] [] pos2] [] pos) (tN S (.b1 .sortedset a)) := by
  have h1 := pe_callTy (cr_setOfT hc (by omega)) hg2 hm2 (by decide +kernel) (PA1 hs ha) (by decide) (by decide) (star_cons hs) rfl (p := p2) (pos := pos2)
  refine (pe_callB (cr_sortedT hc) hg hm (by decide +kernel) (PA1 rfl h1) (by decide) (by decide) rfl rfl).mono fun σ H Q ⟨g, st, env, at_, h⟩ => ?_
  refine tE_imp (lem1 (rel1 := rB S.K) (a := a) (f := fun x st => R.of (bi1 .sortedset x) st) at_ up_N h) fun x H1 ⟨g1, st1, d, a1, r1, h1⟩ => ?_
  cases d <;> try exact h1.elim
  rename_i ds
  obtain ⟨l, vs, rfl, nk, e, rv⟩ := r1
  cases e1 : DD.rowsOf ds with
  | none => simp only [bi1, e1, Option.bind_none] at h1; exact h1.elim
  | some ks =>
    by_cases hr : risen ks = true
    · simp only [bi1, e1, Option.bind_some, if_pos hr] at h1
      obtain ⟨ps, q1, q2, q3⟩ := RVs.rows e1 rv
      unfold risen at hr
      simp only [Bool.and_eq_true, decide_eq_true_eq, List.all_eq_true, beq_iff_eq] at hr
      obtain ⟨⟨hlen, hall⟩, hpw⟩ := hr
      have lps : ps.length = ks.length := by rw [← q2, List.length_map]
      have pw : ps.Pairwise fun a b => code64 a.2 < code64 b.2 := by
        rw [← q2, List.pairwise_map] at hpw; exact hpw
      refine ⟨l, ps, rfl, by rw [← q1]; exact .inl (.inl e), by rw [hK]; exact q3, by omega, fun t L ht hL hL2 => ?_⟩
      have keep : ∀ q ∈ ps, SqT S.K (upd H1 t (SetTO X.prog X.w t L)) q.1 (q.2.map V.int) := fun q hq => (Stp.alloc (g := g1) ht).sqt (q3 q hq)
      refine ⟨t, L, if ks = [] then 1 else (ks.headD [0]).length, 64, rfl, upd_same, fun q hq => by rw [hK]; exact keep q (hL q hq), ?_, fun q hq => ?_, fun L' b pm nd _ so hb => ?_⟩
      · split
        · exact Nat.le_refl _
        · rename_i hne
          cases ks with
          | nil => exact absurd rfl hne
          | cons k ks => exact (hall k (by simp)).1.2
      · have hq2 : q.2 ∈ ks := by rw [← q2]; exact List.mem_map.mpr ⟨q, hL q hq, rfl⟩
        obtain ⟨⟨z1, z2⟩, z3⟩ := hall q.2 hq2
        refine ⟨?_, fun m hm => z3 m hm⟩
        rw [if_neg (List.ne_nil_of_mem hq2)]; exact z1
      · have inj := inj_of_strict (fun q : Addr × List Int => code64 q.2) pw
        have sub : ∀ q ∈ L', q ∈ ps := fun q hq => hL q (pm.mem_iff.mp hq)
        have so2 : L'.Pairwise fun a b => code64 a.2 < code64 b.2 := by
          have nd' : L'.Pairwise fun a b => a.2 ≠ b.2 := List.pairwise_map.mp nd
          refine (List.Pairwise.and nd' so).imp_of_mem fun {a b} hma hmb hab => ?_
          rw [code_eq, code_eq] at hab
          rcases Int.lt_or_eq_of_le hab.2 with q | q
          · exact q
          · exact absurd (congrArg (·.2) (inj a (sub a hma) b (sub b hmb) q)) hab.1
        have eL : L' = ps := strict_eq (fun q : Addr × List Int => code64 q.2) so2 pw fun q => ⟨sub q, fun hq => by
          obtain ⟨q', hq', e'⟩ := List.mem_map.mp (hL2 q hq)
          have := inj q' (hL q' hq') q hq (by show code64 q'.2 = code64 q.2; rw [show q'.2 = q.2 from e'])
          subst this
          exact pm.mem_iff.mpr hq'⟩
        rw [eL, ← q1]
        have w2 := a1.2.1.alloc (o := SetTO X.prog X.w t L) ht
        exact h1 g1 _ _ ((Step.alloc ht).trans (Step.alloc hb)) (w2.alloc hb) ⟨b, vs, rfl, upd_same, (rv.stp (Stp.alloc ht)).stp (Stp.alloc hb), w2.newF hb, w2.newk hb, by
          rcases some_or_none (H1 b) with ⟨o, eo⟩ | eo
          · rw [upd_ne (ne_of_none eo ht), eo] at hb; cases hb
          · exact eo⟩
    · simp only [bi1, e1, Option.bind_some, if_neg hr] at h1; exact h1.elim
theorem RVs.strv {K : PySem.W.Frag} {g : Gh} {H : Hp} : ∀ {ds : List D} {vs : List V} {ss : List Str}, DD.strsOf ds = some ss → RVs K g H ds vs → vs = ss.map V.str
  | [], vs, ss, e, h => by cases e; exact h
  | d :: ds, vs, ss, e, h => by
    obtain ⟨v, ws, rfl, h1, h2⟩ := h
    cases d <;> try cases e
    rename_i z
    simp only [DD.strsOf] at e
    cases e2 : DD.strsOf ds with
    | none => rw [e2] at e; cases e
    | some ks =>
      rw [e2] at e
      cases e
      cases h1
      rw [RVs.strv e2 h2]; rfl
theorem words_sorted {ys : List Str} (hp : ys.Perm wordsR) (hs : sortedS ys = true) : ys = wordsR := by
  have hl := hp.length_eq
  have nd : ys.Nodup := hp.nodup_iff.mpr (by decide +kernel)
  have hm : ∀ y ∈ ys, y ∈ wordsR := fun y hy => hp.mem_iff.mp hy
  match ys, hl with
  | [a, b, c, d], _ =>
    have ha := hm a (by simp)
    have hb := hm b (by simp)
    have hc := hm c (by simp)
    have hd := hm d (by simp)
    have s1 : ltCps b.cps.toList a.cps.toList = false := by
      simp only [sortedS, risingS, Bool.and_eq_true, Bool.not_eq_true'] at hs; exact hs.1
    have s2 : ltCps c.cps.toList b.cps.toList = false := by
      simp only [sortedS, risingS, Bool.and_eq_true, Bool.not_eq_true'] at hs; exact hs.2.1
    have s3 : ltCps d.cps.toList c.cps.toList = false := by
      simp only [sortedS, risingS, Bool.and_eq_true, Bool.not_eq_true'] at hs; exact hs.2.2.1
    have n1 : a ≠ b := by intro e; simp [e] at nd
    have n2 : b ≠ c := by intro e; simp [e] at nd
    have n3 : c ≠ d := by intro e; simp [e] at nd
    have key : ∀ x ∈ wordsR, ∀ y ∈ wordsR, ltCps y.cps.toList x.cps.toList = false → x ≠ y → wordsR.idxOf x < wordsR.idxOf y := by decide +kernel
    have k1 := key a ha b hb s1 n1
    have k2 := key b hb c hc s2 n2
    have k3 := key c hc d hd s3 n3
    have i4 := List.idxOf_lt_length_iff.mpr hd
    have e4 : wordsR.length = 4 := rfl
    have at' : ∀ x ∈ wordsR, ∀ k, wordsR.idxOf x = k → wordsR[k]? = some x := by
      intro x hx k hk
      subst hk
      rw [List.getElem?_eq_getElem (List.idxOf_lt_length_iff.mpr hx), List.getElem_idxOf]
    have ea := at' a ha 0 (by omega)
    have eb := at' b hb 1 (by omega)
    have ec := at' c hc 2 (by omega)
    have ed := at' d hd 3 (by omega)
    cases ea; cases eb; cases ec; cases ed
    rfl
theorem call_b_sortw : CallR X (.builtin "sorted") (rB1 X.K .sortedw) := by
  intro pins s σ H xs us Q I r h
  obtain ⟨g, st, d, x, rfl, w, hx, q⟩ := h
  cases d <;> first | exact Gives.no q | skip
  rename_i ds
  obtain ⟨a, vs, rfl, _, ha, hv⟩ := hx
  obtain ⟨ss, e, q2⟩ := Gives.bind (show Gives X.K g H st ((DD.strsOf ds).bind fun ss => if ss.isPerm wordsR then some (.lst (wordsR.map .str)) else none) Q from q)
  obtain ⟨hp, q3⟩ := Gives.ite q2
  have hp' : ss.Perm wordsR := List.isPerm_iff.mp hp
  rw [RVs.strv e hv] at ha
  refine cr_sortedS pins s σ H _ us Q I r ⟨a, ss, rfl, .inl (.inl ha), by rw [hp'.length_eq]; decide, fun ys p h1 h2 hf => ?_⟩
  rw [words_sorted (h1.trans hp') h2]
  refine Gives.lst q3 w ?_ hf
  exact ⟨_, _, rfl, rfl, _, _, rfl, rfl, _, _, rfl, rfl, _, _, rfl, rfl, rfl⟩
end
end DDS

set_option Elab.async false
set_option linter.all false
set_option maxRecDepth 100000
set_option maxHeartbeats 2000000
namespace DDS
open PySem PySem.Spec PyProof.Rows L2 DD
/-- what is owned by nobody yet -/
def Own (g : Gh) (Hs : Hp) (os : List Addr) : Prop := os.Nodup ∧ ∀ a ∈ os, ¬ g.F a ∧ a ∉ g.ks ∧ Hs a = none
def rW (K : PySem.W.Frag) : Rl W V := fun Hs g H w v => ∃ os, RW K g H w v os ∧ Own g Hs os
theorem up_W {K : PySem.W.Frag} : Up (rW K) := fun H H1 g' H' d v hl h => by
  obtain ⟨os, h1, h2, h3⟩ := h
  exact ⟨os, h1, h2, fun a ha => ⟨(h3 a ha).1, (h3 a ha).2.1, hl a (h3 a ha).2.2⟩⟩
/-- a def's promise -/
def spOf (K : PySem.W.Frag) (ca : Nat → Addr) (cl : CallT) (f : Nat) : Sp := fun vs H Q E => ∃ g st ds, Wf K g H st ∧ RVs K g H ds vs ∧ match cl f ds st with
  | .ok w st' => ∀ g' H' v, Step g H g' H' → Wf K g' H' st' → rW K H g' H' w v → Q v H'
  | .exc c st' => ∀ g' H', Step g H g' H' → Wf K g' H' st' → E (.ref (ca c)) none H'
  | .bad => False
structure FnAt (X : Cx) (S : Sg) (k f : Nat) (x : Str) : Prop where
  ex : ∃ fa fd ps, FnOk X.prog X.w X.K X.mg X.base (L2N.CX X.prog X.w) k fa fd ps (spOf S.K S.ca S.cl f) ∧ X.mg x = some (.ref fa) ∧ PySem.W.keepIn X.K (.ref fa) = true ∧ Binds X.K fd ps []
def tW (S : Sg) (w : WE) : TE := fun σ H Q => ∃ g st env, At S σ H g st env ∧ Post S σ g H (evW S.cl w env st) (rW S.K) Q
theorem RW.flat {K : PySem.W.Frag} {g : Gh} {H : Hp} {w : W} {v : V} {os : List Addr} (r : RW K g H w v os) (f : flatD w.d = true) : ∀ g', RV K g' H w.d v := by
  intro g'
  cases w with
  | no => exact r.elim
  | fz d =>
    cases d with
    | non => exact r.1
    | bool _ => exact r.1
    | int _ => exact r.1
    | str _ => exact r.1
    | _ => cases f
  | _ => cases f
section
variable {X : Cx} {S : Sg} {pos : Pos} {pa pb pc : Expr} {a b c : E}
theorem w_call {k f : Nat} {x : Str} {p : Pos} {pes : List Expr} {es : List E} (F : FnAt X S k f x) (hr : Room k X.A) (tk : L2N.Takes X S.W) (hg : Gl X x) (hdb : (x == ("__debug__" : Str)) = false) (hs : (pa :: pes).all notStar = true)
    (ha : PA X (pa :: pes) (tEs S (rFs S.K) es)) : PE X (.Call (.Name x p) (pa :: pes) [] pos) (tW S (.call f es)) := by
  obtain ⟨fa, fd, ps, F, hm, hk, hb⟩ := F.ex
  rw [List.all_cons, Bool.and_eq_true] at hs
  refine (pe_callS (E := WE S.W) F hr hg hm hk hb (fun σ => L2N.passAt tk σ) ha hdb (star_cons hs.1) (star_all hs.2)).mono fun σ H Q ⟨g, st, env, at_, h⟩ => ?_
  refine ⟨g, st, env, at_, (Post.bind (rel1 := rFs S.K) up_W h).mono fun g' H' d v st' s w r k => ?_⟩
  obtain ⟨g1, st1, ds, s1, w1, r1, h1⟩ := k g' H' v s w r
  refine ⟨g1, st1, ds, w1, r1, ?_⟩
  cases e : S.cl f ds st1 with
  | ok w st2 => rw [e] at h1; exact fun g' H' v s w r => h1 g' H' v s w r
  | exc c st2 => rw [e] at h1; exact fun g' H' s w => h1 g' H' s w
  | bad => rw [e] at h1; exact h1
/-- what a call hands back, frozen -/
theorem Post.frzW {σ : Sl} {g : Gh} {H : Hp} {r : R W} {Q : VK} (h : Post S σ g H (r.bind fun w st => .ok w.d st) (rF S.K) Q) : Post S σ g H r (rW S.K) Q := by
  cases r with
  | ok w st => 
    intro g' H' v s wf ⟨os, r1, nd, ow⟩
    exact h (g'.more os) H' v (s.more fun a ha => (ow a ha).2.2) (wf.more (fun a ha => r1.live ha) fun a ha => (ow a ha).2.1) (RW.frz (fun _ z => z) r1)
  | exc c st => exact h
  | bad => exact h
theorem bind_assoc {α β γ : Type} (r : R α) (f : α → Store → R β) (k : β → Store → R γ) : (r.bind f).bind k = r.bind fun a st => (f a st).bind k := by cases r <;> rfl
theorem tW_F {f : Nat} {es : List E} {σ : Sl} {H : Hp} {Q : VK} (h : tF S (.call f es) σ H Q) : tW S (.call f es) σ H Q := by
  obtain ⟨g, st, env, at_, h⟩ := h
  refine ⟨g, st, env, at_, Post.frzW ?_⟩
  rw [evW, bind_assoc]
  rw [evE] at h
  exact h
theorem e_call {k f : Nat} {x : Str} {p : Pos} {pes : List Expr} {es : List E} (F : FnAt X S k f x) (hr : Room k X.A) (tk : L2N.Takes X S.W) (hg : Gl X x) (hdb : (x == ("__debug__" : Str)) = false) (hs : (pa :: pes).all notStar = true)
    (ha : PA X (pa :: pes) (tEs S (rFs S.K) es)) : PE X (.Call (.Name x p) (pa :: pes) [] pos) (tF S (.call f es)) := (w_call F hr tk hg hdb hs ha).mono fun _ _ _ => tW_F
/-! ### a call that is lent its lists -/
def lentA : List D → List V → List Addr
  | .lst _ :: ds, .ref a :: vs => a :: lentA ds vs
  | .dic _ _ :: ds, .ref a :: vs => a :: lentA ds vs
  | _ :: ds, _ :: vs => lentA ds vs
  | _, _ => []
theorem lent_ok {K : PySem.W.Frag} {g : Gh} {H : Hp} : ∀ {ds : List D} {vs : List V}, RBs K g H ds vs → (∀ a ∈ lentA ds vs, a ∉ g.ks ∧ ∃ o, H a = some o) ∧ ∀ os, (∀ a ∈ lentA ds vs, a ∈ os) → RVs K (g.more os) H ds vs
  | [], _, h => by rw [show _ = _ from h]; exact ⟨fun _ z => (by simp [lentA] at z), fun _ _ => rfl⟩
  | d :: ds, _, h => by
    obtain ⟨v, ws, rfl, h1, h2⟩ := h
    obtain ⟨i1, i2⟩ := lent_ok h2
    cases d with
    | lst xs =>
      obtain ⟨a, vs, rfl, n, e, r⟩ := h1
      refine ⟨fun b hb => ?_, fun os ho => ⟨_, _, rfl, ⟨a, vs, rfl, .inr (ho a (by simp [lentA])), e, r.stp Stp.more⟩, i2 os fun b hb => ho b (by simp [lentA, hb])⟩⟩
      rcases List.mem_cons.mp (show b ∈ a :: lentA ds ws from hb) with rfl | hb
      · exact ⟨n, _, e⟩
      · exact i1 b hb
    | dic ks us =>
      obtain ⟨a, vs, rfl, n, e, r, r2⟩ := h1
      refine ⟨fun b hb => ?_, fun os ho => ⟨_, _, rfl, ⟨a, vs, rfl, .inr (ho a (by simp [lentA])), e, r, r2.stp Stp.more⟩, i2 os fun b hb => ho b (by simp [lentA, hb])⟩⟩
      rcases List.mem_cons.mp (show b ∈ a :: lentA ds ws from hb) with rfl | hb
      · exact ⟨n, _, e⟩
      · exact i1 b hb
    | non => exact ⟨i1, fun os ho => ⟨_, _, rfl, RV.stp (d := .non) Stp.more h1, i2 os ho⟩⟩
    | bool q => exact ⟨i1, fun os ho => ⟨_, _, rfl, RV.stp (d := .bool q) Stp.more h1, i2 os ho⟩⟩
    | int q => exact ⟨i1, fun os ho => ⟨_, _, rfl, RV.stp (d := .int q) Stp.more h1, i2 os ho⟩⟩
    | str q => exact ⟨i1, fun os ho => ⟨_, _, rfl, RV.stp (d := .str q) Stp.more h1, i2 os ho⟩⟩
    | tup q => exact ⟨i1, fun os ho => ⟨_, _, rfl, RV.stp (d := .tup q) Stp.more h1, i2 os ho⟩⟩
    | ref q => exact ⟨i1, fun os ho => ⟨_, _, rfl, RV.stp (d := .ref q) Stp.more h1, i2 os ho⟩⟩
    | scr q => exact ⟨i1, fun os ho => ⟨_, _, rfl, RV.stp (d := .scr q) Stp.more h1, i2 os ho⟩⟩
    | ldic q q2 => exact ⟨i1, fun os ho => ⟨_, _, rfl, RV.stp (d := .ldic q q2) Stp.more h1, i2 os ho⟩⟩
/-- what was lent comes back -/
theorem lent_back {K : PySem.W.Frag} {g g' : Gh} {H H' : Hp} {st' : Store} {os : List Addr} (s : Step (g.more os) H g' H') (w : Wf K g' H' st') : Step g H ⟨g.F, g'.ks⟩ H' ∧ Wf K ⟨g.F, g'.ks⟩ H' st' := by
  refine ⟨⟨fun _ z => z, s.ks, s.kp, s.lv, fun _ z => .inl z, s.nk⟩, ⟨w.len, w.nd, fun k c a e1 e2 => ?_, fun a ha z => w.nF a ha (s.F a (.inl z)), fun a z => w.lv a (s.F a (.inl z))⟩⟩
  have q := w.cell k c a e1 e2
  cases c with
  | lst ds => obtain ⟨vs, h1, h2, h3⟩ := q; exact ⟨vs, h1, RVs.nolist h3 h2, h3⟩
theorem e_callB {k f : Nat} {x : Str} {p : Pos} {pes : List Expr} {es : List E} (F : FnAt X S k f x) (hr : Room k X.A) (tk : L2N.Takes X S.W) (hg : Gl X x) (hdb : (x == ("__debug__" : Str)) = false) (hs : (pa :: pes).all notStar = true)
    (ha : PA X (pa :: pes) (tEs S (rBs S.K) es)) : PE X (.Call (.Name x p) (pa :: pes) [] pos) (tF S (.callB f es)) := by
  obtain ⟨fa, fd, ps, F, hm, hk, hb⟩ := F.ex
  rw [List.all_cons, Bool.and_eq_true] at hs
  refine (pe_callS (E := WE S.W) F hr hg hm hk hb (fun σ => L2N.passAt tk σ) ha hdb (star_cons hs.1) (star_all hs.2)).mono fun σ H Q ⟨g, st, env, at_, h⟩ => ?_
  refine ⟨g, st, env, at_, (Post.bind (rel1 := rBs S.K) up_F h).mono fun g' H' d v st' s w r k => ?_⟩
  obtain ⟨g1, st1, ds, s1, w1, r1, h1⟩ := k g' H' v s w r
  obtain ⟨l1, l2⟩ := lent_ok r1
  refine ⟨g1.more (lentA ds v), st1, ds, w1.more (fun a ha => (l1 a ha).2) fun a ha => (l1 a ha).1, l2 _ fun _ z => z, ?_⟩
  cases e : S.cl f ds st1 with
  | ok wv st2 =>
    rw [e] at h1
    intro g' H' v s w ⟨os, r, _⟩
    obtain ⟨s', w'⟩ := lent_back s w
    by_cases hf : flatD wv.d = true
    · rw [R.bind_ok, if_pos hf] at h1
      exact h1 _ H' v s' w' (RW.flat r hf _)
    · rw [R.bind_ok, if_neg hf] at h1
      exact h1.elim
  | exc c st2 =>
    rw [e] at h1
    intro g' H' s w
    obtain ⟨s', w'⟩ := lent_back s w
    exact h1 _ H' s' w'
  | bad => rw [e] at h1; exact h1
end
end DDS

set_option Elab.async false
set_option linter.all false
set_option maxRecDepth 100000
set_option maxHeartbeats 2000000
namespace DDS
open PySem PySem.Spec PyProof.Rows L2 DD
/-! ### slots are set -/
section
variable {K : PySem.W.Frag} {g : Gh} {H0 H : Hp} {env : Ev} {σ : Sl} {ow : Nat → List Addr}
/-- a slot is set to what owns os, of which nobody else knows -/
theorem EnvR.set (r : EnvR K g H0 H env σ ow) {i : Nat} {w : W} {v : V} {os : List Addr} (hi : i < env.length) (rw_ : RW K g H w v os) (nd : os.Nodup) (own : ∀ a ∈ os, ¬ g.F a ∧ a ∉ g.ks ∧ H0 a = none) (dj : ∀ j, j ≠ i → ∀ a ∈ os, a ∉ ow j) :
    EnvR K g H0 H (env.set i w) (σ.set i (some v)) (fun j => if j = i then os else ow j) where
  len := by simp [r.len]
  sl := fun j x e => by
    by_cases hj : j = i
    · subst hj
      rw [List.getElem?_set_self hi] at e
      cases e
      refine .inr ⟨v, ?_, by simpa using rw_⟩
      rw [List.getElem?_set_self (by rw [← r.len]; exact hi)]
    · rw [List.getElem?_set_ne (Ne.symm hj)] at e
      rw [if_neg hj, List.getElem?_set_ne (Ne.symm hj)]
      exact r.sl j x e
  nd := fun j => by
    by_cases hj : j = i
    · rw [if_pos hj]; exact nd
    · rw [if_neg hj]; exact r.nd j
  dj := fun j k a h1 h2 => by
    by_cases hj : j = i
    · rw [if_pos hj] at h1
      by_cases hk : k = i
      · rw [hj, hk]
      · rw [if_neg hk] at h2; exact absurd h2 (dj k hk a h1)
    · rw [if_neg hj] at h1
      by_cases hk : k = i
      · rw [if_pos hk] at h2; exact absurd h1 (dj j hj a h2)
      · rw [if_neg hk] at h2; exact r.dj j k a h1 h2
  own := fun j a ha => by
    by_cases hj : j = i
    · rw [if_pos hj] at ha; exact own a ha
    · rw [if_neg hj] at ha; exact r.own j a ha
  out := fun j hj => by
    rw [List.length_set] at hj
    rw [if_neg (by omega)]; exact r.out j hj
theorem EnvR.setF (r : EnvR K g H0 H env σ ow) {i : Nat} {d : D} {v : V} (hi : i < env.length) (h : RV K g H d v) : ∃ ow', EnvR K g H0 H (env.set i (.fz d)) (σ.set i (some v)) ow' :=
  ⟨_, r.set (os := []) hi ⟨h, rfl⟩ List.nodup_nil (by simp) (by simp)⟩
/-- a slot is emptied -/
theorem EnvR.none (r : EnvR K g H0 H env σ ow) (i : Nat) : EnvR K g H0 H (env.set i .no) (σ.set i Option.none) (fun j => if j = i then [] else ow j) where
  len := by simp [r.len]
  sl := fun j x e => by
    by_cases hj : j = i
    · subst hj
      rcases Nat.lt_or_ge j env.length with hi | hi
      · rw [List.getElem?_set_self hi] at e
        cases e
        exact .inl ⟨rfl, by simp⟩
      · rw [List.getElem?_eq_none (by simpa using hi)] at e; cases e
    · rw [List.getElem?_set_ne (Ne.symm hj)] at e
      rw [if_neg hj, List.getElem?_set_ne (Ne.symm hj)]
      exact r.sl j x e
  nd := fun j => by
    by_cases hj : j = i
    · rw [if_pos hj]; exact List.nodup_nil
    · rw [if_neg hj]; exact r.nd j
  dj := fun j k a h1 h2 => by
    by_cases hj : j = i
    · rw [if_pos hj] at h1; cases h1
    · by_cases hk : k = i
      · rw [if_pos hk] at h2; cases h2
      · rw [if_neg hj] at h1; rw [if_neg hk] at h2; exact r.dj j k a h1 h2
  own := fun j a ha => by
    by_cases hj : j = i
    · rw [if_pos hj] at ha; cases ha
    · rw [if_neg hj] at ha; exact r.own j a ha
  out := fun j hj => by
    rw [List.length_set] at hj
    by_cases hji : j = i
    · rw [if_pos hji]
    · rw [if_neg hji]; exact r.out j hj
end
theorem wipe_set {env : Ev} {i j : Nat} : ∀ is : List Nat, (DD.wipe env is).set i .no = DD.wipe (env.set i .no) is
  | [] => rfl
  | k :: is => by
    simp only [DD.wipe]
    rw [wipe_set (env := env.set k .no) (j := j) is]
    congr 1
    by_cases h : k = i
    · subst h; rfl
    · rw [List.set_comm _ _ h]
theorem EnvR.wipe {K : PySem.W.Frag} {g : Gh} {H0 H : Hp} {env : Ev} {σ : Sl} {ow : Nat → List Addr} (r : EnvR K g H0 H env σ ow) : ∀ is : List Nat, ∃ ow', EnvR K g H0 H (DD.wipe env is) (L2.wipe σ is) ow'
  | [] => ⟨ow, r⟩
  | i :: is => by
    obtain ⟨ow', r'⟩ := EnvR.wipe r is
    refine ⟨fun j => if j = i then [] else ow' j, ?_⟩
    show EnvR K g H0 H (DD.wipe (env.set i .no) is) ((L2.wipe σ is).set i Option.none) _
    rw [← wipe_set (j := 0)]
    exact r'.none i
/-! ### targets -/
mutual
def gT (K : PySem.W.Frag) : T → TG
  | .nm i => gName i
  | .tp ts => gTup K ts.length (gTs K ts)
def gTs (K : PySem.W.Frag) : List T → TGs
  | [] => gNil
  | t :: ts => gCons (gT K t) (gTs K ts)
end
mutual
/-- the slots of a target -/
def T.sl : T → List Nat
  | .nm i => [i]
  | .tp ts => T.sls ts
def T.sls : List T → List Nat
  | [] => []
  | t :: ts => T.sl t ++ T.sls ts
end
section
variable {K : PySem.W.Frag} {g : Gh} {H0 H : Hp}
mutual
theorem bind_ok : ∀ {t : T} {d : D} {env env' : Ev} {σ : Sl} {ow : Nat → List Addr} {v : V} {Q : Sl → Hp → Prop}, bindT t d env = some env' → EnvR K g H0 H env σ ow → RV K g H d v →
    (∀ σ' ow', EnvR K g H0 H env' σ' ow' → (∀ j, j ∉ T.sl t → σ'[j]? = σ[j]?) → Q σ' H) → gT K t v σ H Q
  | .nm i, d, env, env', σ, ow, v, Q, e, r, h, k => by
    simp only [bindT] at e
    split at e
    · rename_i hi
      cases e
      obtain ⟨ow', r'⟩ := r.setF hi h
      exact k _ _ r' fun j hj => List.getElem?_set_ne (by simpa [T.sl, eq_comm] using hj)
    · cases e
  | .tp ts, d, env, env', σ, ow, v, Q, e, r, h, k => by
    cases d <;> simp only [bindT] at e <;> try cases e
    rename_i ds
    obtain ⟨a, vs, rfl, h1, h2⟩ := h
    refine ⟨a, vs, rfl, h1, ?_, binds_ok e r h2 k⟩
    rw [← h2.length]
    exact binds_len e
theorem binds_ok : ∀ {ts : List T} {ds : List D} {env env' : Ev} {σ : Sl} {ow : Nat → List Addr} {vs : List V} {Q : Sl → Hp → Prop}, bindTs ts ds env = some env' → EnvR K g H0 H env σ ow → RVs K g H ds vs →
    (∀ σ' ow', EnvR K g H0 H env' σ' ow' → (∀ j, j ∉ T.sls ts → σ'[j]? = σ[j]?) → Q σ' H) → gTs K ts vs σ H Q
  | [], ds, env, env', σ, ow, vs, Q, e, r, h, k => by
    cases ds with
    | nil => simp only [bindTs] at e; cases e; exact ⟨h, k σ ow r fun _ _ => rfl⟩
    | cons d ds => simp only [bindTs] at e; cases e
  | t :: ts, ds, env, env', σ, ow, vs, Q, e, r, h, k => by
    cases ds with
    | nil => simp only [bindTs] at e; cases e
    | cons d ds =>
      obtain ⟨v, ws, rfl, h1, h2⟩ := h
      simp only [bindTs] at e
      cases e1 : bindT t d env with
      | none => rw [e1] at e; cases e
      | some env1 =>
        rw [e1] at e
        refine ⟨v, ws, rfl, bind_ok e1 r h1 fun σ1 ow1 r1 k1 => binds_ok e r1 h2 fun σ2 ow2 r2 k2 => k σ2 ow2 r2 fun j hj => ?_⟩
        simp only [T.sls, List.mem_append, not_or] at hj
        rw [k2 j hj.2, k1 j hj.1]
theorem binds_len : ∀ {ts : List T} {ds : List D} {env env' : Ev}, bindTs ts ds env = some env' → ds.length = ts.length
  | [], ds, _, _, e => by cases ds <;> simp only [bindTs] at e <;> first | rfl | cases e
  | t :: ts, ds, env, env', e => by
    cases ds with
    | nil => simp only [bindTs] at e; cases e
    | cons d ds =>
      simp only [bindTs] at e
      cases e1 : bindT t d env with
      | none => rw [e1] at e; cases e
      | some env1 => rw [e1] at e; simp [binds_len e]
end
end
/-! ### what is walked -/
/-- what is to come: behind statements (m), behind expressions -/
def Fut (m : Bool) (g : Gh) (H : Hp) (g' : Gh) (H' : Hp) : Prop := match m with
  | true => Stp g H g' H'
  | false => Step g H g' H'
def rM (m : Bool) (K : PySem.W.Frag) : Rl D V := match m with
  | true => rF K
  | false => rB K
structure ItOk (K : PySem.W.Frag) (m : Bool) (g : Gh) (H : Hp) (xs : List D) (J : It) : Prop where
  ex : ∃ G Y, Walk J xs.length G Y ∧ (∀ g' H', Fut m g H g' H' → G H') ∧
    ∀ i d x g' H' H'', xs[i]? = some d → Fut m g H g' H' → Y i H' x H'' → (H'' = H' ∧ RV K g' H' d x) ∨ ∃ p o, H' p = none ∧ H'' = upd H' p o ∧ RV K g' H'' d x
def rI (m : Bool) (K : PySem.W.Frag) : Rl (List D) It := fun _ g H xs J => ItOk K m g H xs J
theorem up_I {m : Bool} {K : PySem.W.Frag} : Up (rI m K) := fun _ _ _ _ _ _ _ h => h
def wI (S : Sg) (m : Bool) (it : I) : TI := fun σ H Q => ∃ g st env, At S σ H g st env ∧ Post S σ g H (evI S.cl it env st) (rI m S.K) Q
theorem Fut.refl {m : Bool} {g : Gh} {H : Hp} : Fut m g H g H := by cases m; exact Step.refl _ _; exact Stp.refl _ _
theorem Fut.stp {K : PySem.W.Frag} {st : Store} {m : Bool} {g g' : Gh} {H H' : Hp} (f : Fut m g H g' H') (w : Wf K g H st) : Stp g H g' H' := by
  cases m
  · exact Step.stp f w
  · exact f
/-- the items of a list or tuple that is walked stay -/
theorem seq_of {K : PySem.W.Frag} {st : Store} {m : Bool} {Hs H : Hp} {g : Gh} {d : D} {v : V} {ds : List D} (h : rM m K Hs g H d v) (e : d.items = some ds) (w : Wf K g H st) :
    ∃ t a vs, v = .ref a ∧ RVs K g H ds vs ∧ ∀ g' H', Fut m g H g' H' → DDZ.Sq t K H' a vs ∧ RVs K g' H' ds vs := by
  cases d <;> cases e
  · have h' : RV K g H (.tup ds) v := by cases m <;> exact h
    obtain ⟨a, vs, rfl, h1, h2⟩ := h'
    exact ⟨true, a, vs, rfl, h2, fun g' H' f => ⟨(f.stp w).sqt h1, h2.stp (f.stp w)⟩⟩
  · cases m
    · obtain ⟨a, vs, rfl, n, h1, h2⟩ := h
      exact ⟨false, a, vs, rfl, h2, fun g' H' f => ⟨.inl (.inl (Step.kp f a _ h1 n)), h2.stp (f.stp w)⟩⟩
    · obtain ⟨a, vs, rfl, n, h1, h2⟩ := h
      exact ⟨false, a, vs, rfl, h2, fun g' H' f => ⟨.inl (.inl (Stp.fz f a _ n h1)), h2.stp (f.stp w)⟩⟩
section
variable {X : Cx} {S : Sg} {pos : Pos} {pa pb pc tg : Expr} {a b c : E} {m : Bool}
theorem _root_.L2.PI.or {iter : Expr} {w u : TI} (h1 : PI X tg iter w) (h2 : PI X tg iter u) : PI X tg iter (fun σ H R => w σ H R ∨ u σ H R) :=
  ⟨fun pins s σ H R I h => by
    rcases h with h | h
    · exact h1.run pins s σ H R I h
    · exact h2.run pins s σ H R I h⟩
theorem _root_.L2.PI.mono {iter : Expr} {w u : TI} (h1 : PI X tg iter w) (h : ∀ σ H R, u σ H R → w σ H R) : PI X tg iter u :=
  ⟨fun pins s σ H R I q => h1.run pins s σ H R I (h σ H R q)⟩
theorem rM_str {K : PySem.W.Frag} {Hs H : Hp} {g : Gh} {z : Str} {v : V} (h : rM m K Hs g H (.str z) v) : v = .str z := by cases m <;> exact h
theorem it_at {K : PySem.W.Frag} {t : Bool} {a : Addr} {vs : List V} {xs : List D} {g : Gh} {H : Hp} {J : It} (hw : Walk J vs.length (fun H => DDZ.Sq t K H a vs) (YAt vs)) (r : RVs K g H xs vs) (f : ∀ g' H', Fut m g H g' H' → DDZ.Sq t K H' a vs ∧ RVs K g' H' xs vs) : ItOk K m g H xs J :=
  ⟨_, YAt vs, by rw [r.length]; exact hw, fun g' H' q => (f g' H' q).1, fun i d x g' H' H'' e q ⟨e1, e2⟩ => .inl ⟨e1, by
    obtain ⟨d', e3, e4⟩ := (f g' H' q).2.get' e2
    rw [e] at e3; cases e3; exact e4⟩⟩
theorem i_of (hK : X.K = S.K) (ha : PE X pa (tE S (rM m S.K) a)) : PI X tg pa (wI S m (.of a)) := by
  refine ((((pi_list ha).or (pi_tup ha)).or (pi_str ha)).or (pi_keys ha)).mono fun σ H Rr ⟨g, st, env, at_, h⟩ => ?_
  simp only [evI] at h
  cases e : evE S.cl a env st with
  | exc c st1 =>
    rw [e] at h
    exact .inl (.inr ⟨g, st, env, at_, by rw [e]; exact h⟩)
  | bad => rw [e] at h; exact h.elim
  | ok d st1 =>
    rw [e] at h
    cases d <;> first | exact h.elim | skip
    · rename_i z
      refine .inl (.inr ⟨g, st, env, at_, ?_⟩)
      rw [e]
      intro g' H' v s w r
      have hv := rM_str r
      subst hv
      refine ⟨z, rfl, ?_⟩
      rw [R.bind_ok] at h
      by_cases hz : z.length ≤ lim
      · simp only [if_pos hz] at h
        refine h g' H' _ s w ⟨fun _ => True, fun i H v H' => H' = H ∧ ∃ c, z.cps[i]? = some c ∧ v = .str ⟨#[c]⟩, ?_, fun _ _ _ => trivial, fun i d x g2 H2 H3 e2 _ hy => ?_⟩
        · rw [List.length_map, Array.length_toList]; exact walk_str
        · obtain ⟨e3, c, e4, rfl⟩ := hy
          refine .inl ⟨e3, ?_⟩
          rw [List.getElem?_map, Array.getElem?_toList, e4] at e2
          cases e2; rfl
      · simp only [if_neg hz] at h; exact h.elim
    · rename_i xs
      refine .inl (.inl (.inr ⟨g, st, env, at_, ?_⟩))
      rw [e]
      intro g' H' v s w r
      obtain ⟨t, a, vs, rfl, r1, f⟩ := seq_of r (show D.items (.tup xs) = some xs from rfl) w
      have hr : RV S.K g' H' (.tup xs) (.ref a) := by cases m <;> exact r
      obtain ⟨a', vs', e1, q1, q2⟩ := hr
      cases e1
      refine ⟨a, rfl, ⟨vs', by rw [hK]; exact q1.t⟩, h g' H' _ s w ?_⟩
      rw [hK]
      exact it_at (t := true) walk_tup q2 fun g2 H2 q => ⟨(q.stp w).sqt q1, q2.stp (q.stp w)⟩
    · rename_i xs
      refine .inl (.inl (.inl ⟨g, st, env, at_, ?_⟩))
      rw [e]
      intro g' H' v s w r
      have hr : ∃ a vs, v = .ref a ∧ H' a = some (.lst vs) ∧ RVs S.K g' H' xs vs ∧ ∀ g2 H2, Fut m g' H' g2 H2 → H2 a = some (.lst vs) := by
        cases m
        · obtain ⟨a, vs, rfl, n, h1, h2⟩ := r
          exact ⟨a, vs, rfl, h1, h2, fun g2 H2 f => Step.kp f a _ h1 n⟩
        · obtain ⟨a, vs, rfl, n, h1, h2⟩ := r
          exact ⟨a, vs, rfl, h1, h2, fun g2 H2 f => Stp.fz f a _ n h1⟩
      obtain ⟨a, vs, rfl, q1, q2, q3⟩ := hr
      refine ⟨a, rfl, ⟨vs, .inl (.inl q1)⟩, h g' H' _ s w ?_⟩
      rw [hK]
      exact it_at (t := false) walk_list q2 fun g2 H2 q => ⟨.inl (.inl (q3 g2 H2 q)), q2.stp (q.stp w)⟩
    · rename_i ks us
      refine .inr ⟨g, st, env, at_, ?_⟩
      rw [e]
      intro g' H' v s w r
      have hr : RV S.K g' H' (.ldic ks us) v := by cases m <;> exact r
      obtain ⟨a, kvs, rfl, hF, ⟨o, h1⟩, hk, hu⟩ := hr
      refine ⟨a, o, rfl, .inl ⟨kvs, h1, h g' H' _ s w ⟨_, _, by rw [hk, List.length_map]; exact walk_keys, fun g2 H2 f => (f.stp w).fz a _ hF h1, fun i d x g2 H2 H3 e2 q hy => ?_⟩⟩⟩
      obtain ⟨e3, k, v, e4, rfl⟩ := hy
      refine .inl ⟨e3, ?_⟩
      rw [hk, List.getElem?_map, e4] at e2
      cases e2
      cases k <;> rfl
theorem range_it {lo hi : Int} {K : PySem.W.Frag} {g : Gh} {H : Hp} {xs : List D} (h : rangeI lo hi 1 = some xs) : (-(2 ^ 62) ≤ lo ∧ lo < 2 ^ 62 ∧ -(2 ^ 62) ≤ hi ∧ hi < 2 ^ 62) ∧ ItOk K m g H xs (Itr lo (hi - lo).toNat) := by
  unfold rangeI at h
  split at h
  case isFalse => cases h
  rename_i hb
  have l2 : lim = 1000000 := rfl
  cases h
  have e : ((hi - lo + 1 - 1) / 1).toNat = (hi - lo).toNat := by rw [Int.ediv_one]; congr 1; omega
  refine ⟨⟨by omega, by omega, by omega, by omega⟩, ⟨fun _ => True, YFn fun i => .int (lo + i), ?_, fun _ _ _ => trivial, fun i d x g' H' H'' e1 q ⟨e2, e3⟩ => .inl ⟨e2, ?_⟩⟩⟩
  · rw [List.length_map, List.length_range, e]; exact walk_range
  · rw [e] at e1
    rw [List.getElem?_map] at e1
    rcases Nat.lt_or_ge i (hi - lo).toNat with hi' | hi'
    · rw [List.getElem?_range hi'] at e1
      cases e1
      rw [e3]
      show V.int (lo + ↑i) = V.int (lo + ↑i * 1)
      rw [Int.mul_one]
    · rw [List.getElem?_eq_none (by simpa using hi')] at e1; cases e1
theorem i_r1 {p : Pos} (hg : Gl X "range") (hm : X.mg "range" = none) (hs : notStar pa = true) (ha : PE X pa (tF S a)) : PI X tg (.Call (.Name "range" p) [pa] [] pos) (wI S m (.r1 a)) := by
  refine (pi_range1 hg hm (PA1 hs ha) (by rw [star_cons hs]; rfl)).mono fun σ H Rr ⟨g, st, env, at_, h⟩ => ?_
  refine tE_imp (lem1 (rel1 := rF S.K) at_ up_I h) fun x H1 ⟨g, st, d, a1, r, h1⟩ => ?_
  cases d with
  | int j =>
    cases r
    cases e : rangeI 0 j 1 with
    | none => simp only [e] at h1; exact h1.elim
    | some xs =>
      simp only [e] at h1
      obtain ⟨hb, hi⟩ := range_it (m := m) (K := S.K) (g := g) (H := H1) e
      rw [Int.sub_zero] at hi
      exact ⟨j, rfl, hb.2.2.1, hb.2.2.2, h1 g H1 _ (Step.refl _ _) a1.2.1 hi⟩
  | _ => exact h1.elim
theorem i_r2 {p : Pos} (hg : Gl X "range") (hm : X.mg "range" = none) (hs : notStar pa = true) (hs2 : notStar pb = true) (ha : PE X pa (tB S a)) (hb : PE X pb (tB S b)) : PI X tg (.Call (.Name "range" p) [pa, pb] [] pos) (wI S m (.r2 a b)) := by
  refine (pi_range2 hg hm (PA2 hs hs2 ha hb) (by rw [star_cons hs, star_cons hs2]; rfl) (by rw [star_cons hs2]; rfl)).mono fun σ H Rr ⟨g, st, env, at_, h⟩ => ?_
  refine tE_imp (lem2 (a := a) (b := b) (f := fun x y st => match x, y with
    | .int i, .int j => R.of (rangeI i j 1) st
    | _, _ => .bad) at_ up_I h) fun x H1 h1 => tE_imp h1 fun y H2 ⟨g, st, d1, d2, a2, r1, r2, h2⟩ => ?_
  cases d1 <;> try exact h2.elim
  cases d2 <;> try exact h2.elim
  rename_i i j
  cases r1; cases r2
  cases e : rangeI i j 1 with
  | none => simp only [e] at h2; exact h2.elim
  | some xs =>
    simp only [e] at h2
    obtain ⟨hb, hi⟩ := range_it (m := m) (K := S.K) (g := g) (H := H2) e
    exact ⟨i, j, rfl, hb, h2 g H2 _ (Step.refl _ _) a2.2.1 hi⟩
theorem it_pair {K : PySem.W.Frag} {g : Gh} {H : Hp} {J : It} {xs : List D} {n : Nat} {G : Hp → Prop} {fx fy : Nat → Option V} (hn : n = xs.length) (hw : Walk J n G (DDZ.YTwo fx fy)) (hG : ∀ g' H', Fut m g H g' H' → G H')
    (hx : ∀ i d x y g' H' p (o : Obj), o.dict = none → xs[i]? = some d → Fut m g H g' H' → fx i = some x → fy i = some y → H' p = none → RV K g' (upd H' p (.frz o (.tup [x, y]))) d (.ref p)) : ItOk K m g H xs J := by
  subst hn
  exact ⟨G, _, hw, hG, fun i d x g' H' H'' e q ⟨T, x1, y1, e1, e2, ⟨o, ho, e3⟩, e4, e5⟩ => .inr ⟨T, _, e2, e3, by rw [e1, e3]; exact hx i d x1 y1 g' H' T o ho e q e4 e5 e2⟩⟩
theorem i_zip (hK : X.K = S.K) {p tpos : Pos} {elts : List Expr} {kk : Nat} (hg : Gl X "zip") (hm : X.mg "zip" = none) (hs : notStar pa = true) (hs2 : notStar pb = true) (ha : PE X pa (tE S (rM m S.K) a)) (hb : PE X pb (tE S (rM m S.K) b)) :
    PI X (.Tuple elts kk tpos) (.Call (.Name "zip" p) [pa, pb] [] pos) (wI S m (.zip a b)) := by
  refine (DDZ.pi_zip2 hg hm (PA2 hs hs2 ha hb) (star_cons hs) (star_all (by simp [hs2]))).mono fun σ H Rr ⟨g, st, env, at_, h⟩ => ?_
  refine tE_imp (lem1 (a := a) (rel1 := rM m S.K) (f := fun x st => (evE S.cl b env st).bind fun y st => match x.items, y.items with
    | some xs, some ys => R.ok (List.zipWith (fun x y => D.tup [x, y]) xs ys) st
    | _, _ => .bad) at_ up_I h) fun x H1 ⟨g1, st1, d1, a1, r1, h1⟩ => ?_
  refine ⟨g1, st1, env, a1, (Post.bind (rel1 := rM m S.K) up_I h1).mono fun g' H' d v st' s w r k => ?_⟩
  obtain ⟨g2, st2, d2, s2, w2, r2, h2⟩ := k g' H' v s w r
  cases e1 : d1.items with
  | none => simp only [e1] at h2; exact h2.elim
  | some xs =>
    cases e2 : d2.items with
    | none => simp only [e1, e2] at h2; exact h2.elim
    | some ys =>
      simp only [e1, e2] at h2
      have r1' : rM m S.K H g2 H' d1 x := by
        cases m
        · exact RB.step a1.2.1 s2 r1
        · exact RV.stp (s2.stp a1.2.1) r1
      obtain ⟨t, a', vs, rfl, q1, f1⟩ := seq_of r1' e1 w2
      obtain ⟨u, b', ws, rfl, q2, f2⟩ := seq_of r2 e2 w2
      have l1 := q1.length
      have l2 := q2.length
      refine ⟨t, u, a', b', vs, ws, rfl, by rw [hK]; exact (f1 g2 H' .refl).1, by rw [hK]; exact (f2 g2 H' .refl).1, h2 g2 H' _ (Step.refl _ _) w2 ?_⟩
      rw [hK]
      refine it_pair (n := min vs.length ws.length) (by simp [l1, l2]) DDZ.walk_zip2 (fun g' H' q => ⟨(f1 g' H' q).1, (f2 g' H' q).1⟩) fun i d x y g' H3 p o ho e q ex ey hp => ?_
      rw [List.getElem?_zipWith] at e
      obtain ⟨dx, ex', rx⟩ := (f1 g' H3 q).2.get' ex
      obtain ⟨dy, ey', ry⟩ := (f2 g' H3 q).2.get' ey
      rw [ex', ey'] at e
      cases e
      exact ⟨p, [x, y], rfl, SqN.new ho, x, [y], rfl, rx.stp (Stp.alloc hp), y, [], rfl, ry.stp (Stp.alloc hp), rfl⟩
theorem zip3D_len : ∀ xs ys zs : List D, (zip3D xs ys zs).length = min xs.length (min ys.length zs.length)
  | [], _, _ => by simp [zip3D]
  | _ :: _, [], _ => by simp [zip3D]
  | _ :: _, _ :: _, [] => by simp [zip3D]
  | x :: xs, y :: ys, z :: zs => by
    have := zip3D_len xs ys zs
    simp only [zip3D, List.length_cons, this]; omega
theorem zip3D_get : ∀ {xs ys zs : List D} {i : Nat} {x y z d : D}, (zip3D xs ys zs)[i]? = some d → xs[i]? = some x → ys[i]? = some y → zs[i]? = some z → d = .tup [x, y, z]
  | [], _, _, _, _, _, _, _, h, _, _, _ => by simp [zip3D] at h
  | _ :: _, [], _, _, _, _, _, _, h, _, _, _ => by simp [zip3D] at h
  | _ :: _, _ :: _, [], _, _, _, _, _, h, _, _, _ => by simp [zip3D] at h
  | x :: xs, y :: ys, z :: zs, 0, _, _, _, _, h, e1, e2, e3 => by
    simp [zip3D] at h e1 e2 e3
    subst e1 e2 e3
    exact h.symm
  | x :: xs, y :: ys, z :: zs, i + 1, _, _, _, _, h, e1, e2, e3 => by
    simp [zip3D] at h e1 e2 e3
    exact zip3D_get h e1 e2 e3
theorem it_tri {K : PySem.W.Frag} {g : Gh} {H : Hp} {J : It} {xs : List D} {n : Nat} {G : Hp → Prop} {fx fy fz : Nat → Option V} (hn : n = xs.length) (hw : Walk J n G (DDZ.YTri fx fy fz)) (hG : ∀ g' H', Fut m g H g' H' → G H')
    (hx : ∀ i d x y z g' H' p (o : Obj), o.dict = none → xs[i]? = some d → Fut m g H g' H' → fx i = some x → fy i = some y → fz i = some z → H' p = none → RV K g' (upd H' p (.frz o (.tup [x, y, z]))) d (.ref p)) : ItOk K m g H xs J := by
  subst hn
  exact ⟨G, _, hw, hG, fun i d x g' H' H'' e q ⟨T, x1, y1, z1, e1, e2, ⟨o, ho, e3⟩, e4, e5, e6⟩ => .inr ⟨T, _, e2, e3, by rw [e1, e3]; exact hx i d x1 y1 z1 g' H' T o ho e q e4 e5 e6 e2⟩⟩
theorem i_zip3 (hK : X.K = S.K) {p tpos : Pos} {elts : List Expr} {kk : Nat} (hg : Gl X "zip") (hm : X.mg "zip" = none) (hs : notStar pa = true) (hs2 : notStar pb = true) (hs3 : notStar pc = true) (ha : PE X pa (tE S (rM m S.K) a)) (hb : PE X pb (tE S (rM m S.K) b)) (hc : PE X pc (tE S (rM m S.K) c)) :
    PI X (.Tuple elts kk tpos) (.Call (.Name "zip" p) [pa, pb, pc] [] pos) (wI S m (.zip3 a b c)) := by
  refine (DDZ.pi_zip3 hg hm (pa_cons ha (PA2 hs2 hs3 hb hc) (star_cons hs)) (star_cons hs) (star_all (by simp [hs2, hs3]))).mono fun σ H Rr ⟨g, st, env, at_, h⟩ => ?_
  refine tE_imp (lem1 (a := a) (rel1 := rM m S.K) (f := fun x st => (evE S.cl b env st).bind fun y st => (evE S.cl c env st).bind fun z st => match x.items, y.items, z.items with
    | some xs, some ys, some zs => R.ok (zip3D xs ys zs) st
    | _, _, _ => .bad) at_ up_I h) fun x H1 ⟨g1, st1, d1, a1, r1, h1⟩ => ?_
  refine ⟨g1, st1, env, a1, (Post.bind (rel1 := rM m S.K) up_I h1).mono fun g' H' d v st' s w r k => ?_⟩
  obtain ⟨g2, st2, d2, s2, w2, r2, h2⟩ := k g' H' v s w r
  have a2 := a1.step s2 w2
  refine ⟨g2, st2, env, a2, (Post.bind (rel1 := rM m S.K) up_I h2).mono fun g' H'' d v' st' s w r k => ?_⟩
  obtain ⟨g3, st3, d3, s3, w3, r3, h3⟩ := k g' H'' v' s w r
  cases e1 : d1.items with
  | none => simp only [e1] at h3; exact h3.elim
  | some xs =>
    cases e2 : d2.items with
    | none => simp only [e1, e2] at h3; exact h3.elim
    | some ys =>
      cases e3 : d3.items with
      | none => simp only [e1, e2, e3] at h3; exact h3.elim
      | some zs =>
        simp only [e1, e2, e3] at h3
        have r1' : rM m S.K H g3 H'' d1 x := by
          cases m
          · exact RB.step w2 s3 (RB.step a1.2.1 s2 r1)
          · exact RV.stp (s3.stp w2) (RV.stp (s2.stp a1.2.1) r1)
        have r2' : rM m S.K H g3 H'' d2 v := by
          cases m
          · exact RB.step w2 s3 r2
          · exact RV.stp (s3.stp w2) r2
        obtain ⟨t, a', vs, rfl, q1, f1⟩ := seq_of r1' e1 w3
        obtain ⟨u, b', ws, rfl, q2, f2⟩ := seq_of r2' e2 w3
        obtain ⟨y, c', us, rfl, q3, f3⟩ := seq_of r3 e3 w3
        have l1 := q1.length
        have l2 := q2.length
        have l3 := q3.length
        refine ⟨t, u, y, a', b', c', vs, ws, us, rfl, by rw [hK]; exact (f1 g3 H'' .refl).1, by rw [hK]; exact (f2 g3 H'' .refl).1, by rw [hK]; exact (f3 g3 H'' .refl).1, h3 g3 H'' _ (Step.refl _ _) w3 ?_⟩
        rw [hK]
        refine it_tri (n := min vs.length (min ws.length us.length)) (by rw [zip3D_len, l1, l2, l3]) DDZ.walk_zip3 (fun g' H' q => ⟨(f1 g' H' q).1, (f2 g' H' q).1, (f3 g' H' q).1⟩) fun i d x y z g' H3 p o ho e q ex ey ez hp => ?_
        obtain ⟨dx, ex', rx⟩ := (f1 g' H3 q).2.get' ex
        obtain ⟨dy, ey', ry⟩ := (f2 g' H3 q).2.get' ey
        obtain ⟨dz, ez', rz⟩ := (f3 g' H3 q).2.get' ez
        have := zip3D_get e ex' ey' ez'
        subst this
        exact ⟨p, [x, y, z], rfl, SqN.new ho, x, [y, z], rfl, rx.stp (Stp.alloc hp), y, [z], rfl, ry.stp (Stp.alloc hp), z, [], rfl, rz.stp (Stp.alloc hp), rfl⟩
theorem i_enum (hK : X.K = S.K) {p tpos : Pos} {elts : List Expr} {kk : Nat} (hg : Gl X "enumerate") (hm : X.mg "enumerate" = none) (hs : notStar pa = true) (ha : PE X pa (tE S (rM m S.K) a)) :
    PI X (.Tuple elts kk tpos) (.Call (.Name "enumerate" p) [pa] [] pos) (wI S m (.enum a)) := by
  refine (DDZ.pi_enum2 hg hm (PA1 hs ha) (by rw [star_cons hs]; rfl)).mono fun σ H Rr ⟨g, st, env, at_, h⟩ => ?_
  refine tE_imp (lem1 (a := a) (rel1 := rM m S.K) (f := fun x st => match x.items with
    | some xs => R.ok (xs.mapIdx fun i x => D.tup [D.int i, x]) st
    | none => .bad) at_ up_I h) fun x H1 ⟨g1, st1, d1, a1, r1, h1⟩ => ?_
  cases e1 : d1.items with
  | none => simp only [e1] at h1; exact h1.elim
  | some xs =>
    simp only [e1] at h1
    obtain ⟨t, a', vs, rfl, q1, f1⟩ := seq_of r1 e1 a1.2.1
    have l1 := q1.length
    refine ⟨t, a', vs, rfl, by rw [hK]; exact (f1 g1 H1 .refl).1, h1 g1 H1 _ (Step.refl _ _) a1.2.1 ?_⟩
    rw [hK]
    refine it_pair (n := vs.length) (by simp [l1]) DDZ.walk_enum2 (fun g' H' q => (f1 g' H' q).1) fun i d x y g' H3 p o ho e q ex ey hp => ?_
    rw [List.getElem?_mapIdx] at e
    cases ex
    obtain ⟨dy, ey', ry⟩ := (f1 g' H3 q).2.get' ey
    rw [ey'] at e
    cases e
    exact ⟨p, _, rfl, SqN.new ho, _, [y], rfl, rfl, y, [], rfl, ry.stp (Stp.alloc hp), rfl⟩
end
end DDS

set_option Elab.async false
set_option linter.all false
set_option maxRecDepth 100000
set_option maxHeartbeats 2000000
namespace DDS
open PySem PySem.Spec PyProof.Rows L2 DD
/-- nothing is let out -/
abbrev Sg.calm (S : Sg) : Sg := { S with W := fun _ _ _ _ => False }
def tTs (S : Sg) (cond : List E) : TT := fun σ H Q => ∃ g st env, At S σ H g st env ∧ Post S σ g H (evC S.cl cond env st) rT Q
theorem calm_ok {α : Type} {r : R α} {a : α} {st : Store} (h : r.calm = .ok a st) : r = .ok a st := by
  cases r with
  | ok b s => exact h
  | exc c s => cases h
  | bad => cases h
theorem calm_exc {α : Type} {r : R α} {c : Nat} {st : Store} (h : r.calm = .exc c st) : False := by
  cases r <;> cases h
/-- the turns of a comprehension, one by one -/
theorem compGo_cons {α : Type} {t : T} {c : Ev → Store → R Bool} {f : Ev → Store → R α} {x : D} {xs : List D} {env : Ev} {st stf : Store} {rest : List α} (h : compGo t c f (x :: xs) env st = .ok rest stf) :
    ∃ env' b st1, bindT t x env = some env' ∧ c env' st = .ok b st1 ∧ ((b = true ∧ ∃ d st2 rest', f env' st1 = .ok d st2 ∧ compGo t c f xs env st2 = .ok rest' stf ∧ rest = d :: rest') ∨ (b = false ∧ compGo t c f xs env st1 = .ok rest stf)) := by
  unfold compGo at h
  cases e : bindT t x env with
  | none => rw [e] at h; cases h
  | some env' =>
    simp only [e] at h
    cases e1 : (c env' st).calm with
    | exc k s => exact (calm_exc e1).elim
    | bad => rw [e1] at h; cases h
    | ok b st1 =>
      simp only [e1, R.bind_ok] at h
      refine ⟨env', b, st1, rfl, calm_ok e1, ?_⟩
      cases b with
      | false => exact .inr ⟨rfl, by simpa using h⟩
      | true =>
        simp only [if_true] at h
        cases e2 : (f env' st1).calm with
        | exc k s => exact (calm_exc e2).elim
        | bad => rw [e2] at h; cases h
        | ok d st2 =>
          simp only [e2, R.bind_ok] at h
          cases e3 : compGo t c f xs env st2 with
          | exc k s => rw [e3] at h; cases h
          | bad => rw [e3] at h; cases h
          | ok rest' st3 =>
            simp only [e3, R.bind_ok] at h
            cases h
            exact .inl ⟨rfl, d, st2, rest', calm_ok e2, e3, rfl⟩
theorem compGo_noexc {α : Type} {t : T} {c : Ev → Store → R Bool} {f : Ev → Store → R α} {env : Ev} {k : Nat} {s : Store} : ∀ {xs : List D} {st : Store}, compGo t c f xs env st ≠ .exc k s
  | [], st => by simp [compGo]
  | x :: xs, st => by
    intro h
    unfold compGo at h
    cases e : bindT t x env with
    | none => rw [e] at h; cases h
    | some env' =>
      simp only [e] at h
      cases e1 : (c env' st).calm with
      | exc k s => exact (calm_exc e1).elim
      | bad => rw [e1] at h; cases h
      | ok b st1 =>
        simp only [e1, R.bind_ok] at h
        cases b with
        | false => exact compGo_noexc (by simpa using h)
        | true =>
          simp only [if_true] at h
          cases e2 : (f env' st1).calm with
          | exc k s => exact (calm_exc e2).elim
          | bad => rw [e2] at h; cases h
          | ok d st2 =>
            simp only [e2, R.bind_ok] at h
            cases e3 : compGo t c f xs env st2 with
            | exc k s => exact compGo_noexc e3
            | bad => rw [e3] at h; cases h
            | ok rest' st3 => rw [e3] at h; cases h
section
variable {K : PySem.W.Frag} {g g1 : Gh} {H H1 : Hp} {D : Addr} {o : HO} {st : Store}
theorem Step.updNew (s : Step g H g1 H1) (hD : H D = none) : Step g H g1 (upd H1 D o) where
  F := s.F
  ks := s.ks
  kp := fun a u e n => by rw [upd_ne (ne_of_none e hD)]; exact s.kp a u e n
  lv := fun a u e => by rw [upd_ne (ne_of_none e hD)]; exact s.lv a u e
  nF := s.nF
  nk := s.nk
theorem Stp.upd {vs : List V} (hF : ¬ g.F D) (hD : H D = some (.lst vs)) : Stp g H g (L2.upd H D o) where
  F := fun _ h => h
  ks := List.prefix_rfl
  fz := fun a u hf e => by rw [upd_ne (fun z => by rw [z] at hf; exact hF hf)]; exact e
  tp := fun a u e t => by rw [upd_ne (fun z => by rw [z, hD] at e; cases e; exact t)]; exact e
  lv := fun a u e => by
    by_cases ha : a = D
    · rw [ha, upd_same]; exact ⟨_, rfl⟩
    · rw [upd_ne ha]; exact ⟨u, e⟩
theorem Wf.upd {vs : List V} (w : Wf K g H st) (hF : ¬ g.F D) (hk : D ∉ g.ks) (hD : H D = some (.lst vs)) : Wf K g (L2.upd H D o) st where
  len := w.len
  nd := w.nd
  cell := fun k c a e1 e2 => (w.cell k c a e1 e2).stp (Stp.upd hF hD) fun u e => by rw [upd_ne (fun z => hk (by rw [← z]; exact List.mem_of_getElem? e2))]; exact e
  nF := w.nF
  lv := fun a ha => by
    obtain ⟨u, e⟩ := w.lv a ha
    exact ⟨u, by rw [upd_ne (fun z => by rw [z] at ha; exact hF ha)]; exact e⟩
end
section
variable {X : Cx} {S : Sg} {elt : E} {t : T} {it : I} {cond : List E} {own : List Nat}
theorem wipe_get (τ : Sl) (us : List Nat) (j : Nat) : (L2.wipe τ us)[j]? = if j ∈ us ∧ j < τ.length then some none else τ[j]? := by
  induction us with
  | nil => simp [L2.wipe]
  | cons u us ih =>
    simp only [L2.wipe]
    by_cases hj : u = j
    · subst hj
      by_cases hlt : u < τ.length
      · rw [List.getElem?_set_self (by rw [wipe_length]; exact hlt), if_pos ⟨by simp, hlt⟩]
      · rw [List.getElem?_eq_none (by simpa [wipe_length] using hlt), if_neg (fun z => hlt z.2), List.getElem?_eq_none (by omega)]
    · rw [List.getElem?_set_ne hj, ih]
      have : (j ∈ u :: us ∧ j < τ.length) ↔ (j ∈ us ∧ j < τ.length) := by simp [Ne.symm hj]
      simp only [this]
theorem sl_wipe {σ σ' : Sl} {vs : List Nat} (hl : σ'.length = σ.length) (h : ∀ j, j ∉ vs → σ'[j]? = σ[j]?) : L2.wipe σ' vs = L2.wipe σ vs := by
  apply List.ext_getElem?
  intro j
  rw [wipe_get, wipe_get, hl]
  by_cases hj : j ∈ vs
  · by_cases hlt : j < σ.length
    · rw [if_pos ⟨hj, hlt⟩, if_pos ⟨hj, hlt⟩]
    · rw [if_neg (fun z => hlt z.2), if_neg (fun z => hlt z.2), List.getElem?_eq_none (by omega), List.getElem?_eq_none (by omega)]
  · rw [if_neg (fun z => hj z.1), if_neg (fun z => hj z.1), h j hj]
mutual
theorem bindT_len : ∀ {t : T} {d : D} {env env' : Ev}, bindT t d env = some env' → env'.length = env.length
  | .nm i, d, env, env', e => by
    simp only [bindT] at e
    split at e
    · cases e; simp
    · cases e
  | .tp ts, d, env, env', e => by
    cases d <;> simp only [bindT] at e <;> try cases e
    exact bindTs_len e
theorem bindTs_len : ∀ {ts : List T} {ds : List D} {env env' : Ev}, bindTs ts ds env = some env' → env'.length = env.length
  | [], ds, _, _, e => by cases ds <;> simp only [bindTs] at e <;> cases e <;> rfl
  | t :: ts, ds, env, env', e => by
    cases ds with
    | nil => simp only [bindTs] at e; cases e
    | cons d ds =>
      simp only [bindTs] at e
      cases e1 : bindT t d env with
      | none => rw [e1] at e; cases e
      | some env1 => rw [e1] at e; rw [bindTs_len e, bindT_len e1]
end
theorem dwipe_len : ∀ (is : List Nat) (env : Ev), (DD.wipe env is).length = env.length
  | [], _ => rfl
  | i :: is, env => by simp only [DD.wipe]; rw [dwipe_len is]; simp
/-- the reading of a comprehension; relE tells of an element, RA of those gathered -/
theorem comp_core {α : Type} {Fe : Ev → Store → R α} {tEl : TE} {relE : Rl α V} {RA : Addr → Hp → Gh → Hp → List α → List V → Prop} {Q : VK} {σ : Sl} {H : Hp} {g1 : Gh} {st1 : Store} {env : Ev} {xs : List DD.D} {J : It} {ds : List α} {stf : Store}
    (hEl : ∀ σ H Q, (∃ g st env, At S.calm σ H g st env ∧ Post S.calm σ g H (Fe env st) relE Q) → tEl σ H Q)
    (hown : ∀ j ∈ T.sl t, j ∈ own)
    (h0 : ∀ D Hb g H, RA D Hb g H [] []) (hstep : ∀ D Hb g H g' H' st acc av, RA D Hb g H acc av → Wf S.K g H st → Step g H g' H' → RA D Hb g' H' acc av)
    (hupd : ∀ D Hb g H acc av vs o, RA D Hb g H acc av → ¬ g.F D → H D = some (.lst vs) → RA D Hb g (upd H D o) acc av)
    (hadd : ∀ D Hb Hs gs g H acc av vs d y st, RA D Hb gs Hs acc av → Wf S.K gs Hs st → Step gs Hs g H → (∀ a, Hs a = none → Hb a = none) → Hs D = some (.lst vs) → relE Hs g H d y → RA D Hb g H (acc ++ [d]) (av ++ [y]))
    (at_ : At S σ H g1 st1 env) (io : ItOk S.K false g1 H xs J) (hR : compGo t (fun env st => evC S.cl cond env st) Fe xs (DD.wipe env own) st1 = .ok ds stf) (hz : ds.length ≤ lim)
    (hQ : ∀ g' H' D av, Step g1 H g' H' → Wf S.K g' H' stf → H' D = some (.lst av) → ¬ g'.F D → D ∉ g'.ks → H D = none → RA D H g' H' ds av → Q (.ref D) H') :
    ∀ D, H D = none → ∃ W : Nat → Nat → Hp → Prop, (∃ m, W 0 m (upd H D (.lst []))) ∧ ∀ i m H, W i m H →
      (J.stop i H ∧ Q (.ref D) H) ∨ (J.go i H ∧ ∃ Nx : Hp → Prop, (∀ H', Nx H' → ∃ m', m' < m ∧ W (i + 1) m' H') ∧ ∀ x H', J.yld i H x H' → gT S.K t x (L2.wipe σ own) H' fun σ2 H2 => L2.wipe σ2 own = L2.wipe σ own ∧ tTs S.calm cond σ2 H2 fun b H3 =>
        if b = true then tEl σ2 H3 fun y H4 => ∃ acc, H4 D = some (.lst acc) ∧ acc.length < sizeLine ∧ Nx (upd H4 D (.lst (acc ++ [y]))) else Nx H3) := by
  intro D hD
  obtain ⟨G, Y, hw, hG, hY⟩ := io.ex
  have hlive : ∀ {g' : Gh} {H' : Hp}, Step g1 H g' H' → ∀ a, H' a = none → H a = none := fun s a e => s.live e
  refine lc_it hw (fun i Hc => ∃ gi sti acc av rest, Step g1 H gi Hc ∧ Wf S.K gi Hc sti ∧ Hc D = some (.lst av) ∧ RA D H gi Hc acc av ∧ ¬ gi.F D ∧ D ∉ gi.ks ∧ acc.length = av.length ∧
      compGo t (fun env st => evC S.cl cond env st) Fe (xs.drop i) (DD.wipe env own) sti = .ok rest stf ∧ ds = acc ++ rest) ?_ ?_ ?_ ?_
  · have nF : ¬ g1.F D := at_.2.1.newF hD
    have nk : D ∉ g1.ks := at_.2.1.newk hD
    exact ⟨g1, st1, [], [], ds, Step.alloc hD, at_.2.1.alloc hD, upd_same, h0 _ _ _ _, nF, nk, rfl, by simpa using hR, rfl⟩
  · rintro i Hc hi ⟨gi, sti, acc, av, rest, s, _⟩
    exact hG gi Hc s
  · rintro i x Hc Hc' hi ⟨gi, sti, acc, av, rest, s, w, eD, ra, nF, nk, la, hgo, hds⟩ hy
    have ex : xs[i]? = some xs[i] := List.getElem?_eq_getElem hi
    have ed : xs.drop i = xs[i] :: xs.drop (i + 1) := List.drop_eq_getElem_cons hi
    rw [ed] at hgo
    obtain ⟨env', b, st2, eb, ec, hrest⟩ := compGo_cons hgo
    -- the heap behind the yield
    have hs : Step gi Hc gi Hc' ∧ RV S.K gi Hc' xs[i] x := by
      rcases hY i xs[i] x gi Hc Hc' ex s hy with ⟨e, r⟩ | ⟨p, o, e1, e2, r⟩
      · rw [e]; exact ⟨Step.refl _ _, r⟩
      · rw [e2] at r ⊢; exact ⟨Step.alloc e1, r⟩
    have w' : Wf S.K gi Hc' sti := by
      rcases hY i xs[i] x gi Hc Hc' ex s hy with ⟨e, r⟩ | ⟨p, o, e1, e2, r⟩
      · rw [e]; exact w
      · rw [e2]; exact w.alloc e1
    obtain ⟨hs, rx⟩ := hs
    have s' := s.trans hs
    obtain ⟨sa, wa, ow, er⟩ := at_
    obtain ⟨ow1, er1⟩ := er.wipe own
    have er2 : EnvR S.K gi S.H0 Hc' (DD.wipe env own) (L2.wipe σ own) ow1 := er1.step wa s'
    have hlen := bindT_len eb
    rw [dwipe_len] at hlen
    refine bind_ok eb er2 rx fun σ' ow' er3 keep => ⟨sl_wipe ?_ fun j hj => ?_, ?_⟩
    · rw [← er3.len, hlen, er.len]
    · rw [keep j (fun z => hj (hown j z)), wipe_get, if_neg (fun z => hj z.1)]
    · -- the test
      refine ⟨gi, sti, env', ⟨sa.trans s', w', ow', er3⟩, ?_⟩
      show Post _ σ' gi Hc' (evC S.cl cond env' sti) rT _
      rw [ec]
      rintro g2 H2 _ s2 w2 rfl
      have eD2 : H2 D = some (.lst av) := s2.kp D _ (hs.kp D _ eD nk) nk
      have s02 := s'.trans s2
      have ra2 : RA D H g2 H2 acc av := hstep _ _ _ _ _ _ _ _ _ (hstep _ _ _ _ _ _ _ _ _ ra w hs) w' s2
      have nF2 : ¬ g2.F D := fun z => by
        rcases s2.nF D z with q | q
        · exact nF q
        · rw [hs.kp D _ eD nk] at q; cases q
      have nk2 : D ∉ g2.ks := fun z => by
        rcases s2.nk D z with q | q
        · exact nk q
        · rw [hs.kp D _ eD nk] at q; cases q
      rcases hrest with ⟨rfl, d, st3, rest', ee, hgo', rfl⟩ | ⟨rfl, hgo'⟩
      · rw [if_pos rfl]
        refine hEl _ _ _ ⟨g2, st2, env', ⟨sa.trans s02, w2, ow', er3.step w' s2⟩, ?_⟩
        rw [ee]
        intro g3 H3 y s3 w3 ry
        have eD3 : H3 D = some (.lst av) := s3.kp D _ eD2 nk2
        have nF3 : ¬ g3.F D := fun z => by
          rcases s3.nF D z with q | q
          · exact nF2 q
          · rw [eD2] at q; cases q
        have nk3 : D ∉ g3.ks := fun z => by
          rcases s3.nk D z with q | q
          · exact nk2 q
          · rw [eD2] at q; cases q
        have ra3 : RA D H g3 H3 (acc ++ [d]) (av ++ [y]) := hadd _ _ _ _ _ _ _ _ _ _ _ _ ra2 w2 s3 (hlive s02) eD2 ry
        refine ⟨av, eD3, ?_, g3, st3, acc ++ [d], av ++ [y], rest', (s02.trans s3).updNew hD, w3.upd nF3 nk3 eD3, upd_same, hupd _ _ _ _ _ _ _ _ ra3 nF3 eD3, nF3, nk3, by simp [la], hgo', by rw [hds]; simp⟩
        have : acc.length + 1 ≤ ds.length := by rw [hds]; simp
        have := lim_le
        omega
      · rw [if_neg Bool.false_ne_true]
        exact ⟨g2, st2, acc, av, rest, s02, w2, eD2, ra2, nF2, nk2, la, hgo', hds⟩
  · rintro Hc ⟨gi, sti, acc, av, rest, s, w, eD, ra, nF, nk, la, hgo, hds⟩
    rw [List.drop_length] at hgo
    cases hgo
    rw [List.append_nil] at hds
    subst hds
    exact hQ gi Hc D av s w eD nF nk hD ra
/-- frozen items, gathered -/
theorem comp_read {Q : VK} {σ : Sl} {H : Hp} (hown : ∀ j ∈ T.sl t, j ∈ own) (h : tN S (.comp elt t it cond own) σ H Q) : tLc (wI S false it) (gT S.K t) (tTs S.calm cond) (tF S.calm elt) own σ H Q := by
  obtain ⟨g, st, env, at_, h⟩ := h
  refine ⟨g, st, env, at_, (Post.bind (rel1 := rI false S.K) up_N h).mono fun g' H' d v st' s w r k => ?_⟩
  obtain ⟨g1, st1, xs, s1, w1, r1, h1⟩ := k g' H' v s w r
  cases e : compGo t (fun env st => evC S.cl cond env st) (fun env st => evE S.cl elt env st) xs (DD.wipe env own) st1 with
  | exc c s => exact (compGo_noexc e).elim
  | bad => rw [e] at h1; exact h1.elim
  | ok ds stf =>
    rw [e] at h1
    simp only [lined, R.bind_ok] at h1
    by_cases hz : ds.length ≤ lim
    · rw [if_pos hz] at h1
      refine comp_core (Fe := fun env st => evE S.cl elt env st) (tEl := tF S.calm elt) (fun _ _ _ h => h) (relE := rF S.K) (RA := fun _ _ g H acc av => RVs S.K g H acc av) hown (fun _ _ _ _ => rfl) (fun _ _ _ _ _ _ _ _ _ r w s => r.stp (s.stp w)) (fun _ _ _ _ _ _ _ _ r nF e => r.stp (Stp.upd nF e))
        (fun _ _ _ _ _ _ _ _ _ _ _ _ r w s _ _ ry => (r.stp (s.stp w)).append ⟨_, [], rfl, ry, rfl⟩) (at_.step s1 w1) r1 e hz fun g2 H2 D av s2 w2 eD nF nk hD ra => ?_
      exact h1 g2 H2 _ s2 w2 ⟨D, av, rfl, eD, ra, nF, nk, hD⟩
    · rw [if_neg hz] at h1; exact h1.elim
def notSet : Expr → Bool
  | .Set _ _ _ => false
  | _ => true
theorem folded_of {iter : Expr} {env : Env} (h : notSet iter = true) : ∀ x, foldedSetIterable iter env x = pure x := by
  intro x
  cases iter <;> first | rfl | cases h
theorem e_comp {pos : Pos} {pelt tg iter : Expr} {ifs : List Expr} {scope : Scope} {ownN : List (Str × Nat)} (hK : X.K = S.K) (hc : X.calm = true) (hN : X.N.Nodup) (ok : BlkOk X.N X.env.scope scope ownN) (ho : own = ownN.map (·.2)) (hown : ∀ j ∈ T.sl t, j ∈ own) (hset : notSet iter = true)
    (hi : PI X tg iter (wI S false it)) (hg : ∀ (s : Shared) (H : Hp) (C : Addr) (cl : List (Str × Addr)) (fp : List Addr), PG (X.blk s H scope (compEnvC scope cl C X.env) fp) tg (gT S.K t))
    (ht : ∀ (s : Shared) (H : Hp) (C : Addr) (cl : List (Str × Addr)) (fp : List Addr), PTs (X.blk s H scope (compEnvC scope cl C X.env) fp) ifs (tTs S.calm cond))
    (he : ∀ (s : Shared) (H : Hp) (C : Addr) (cl : List (Str × Addr)) (fp : List Addr), PE (X.blk s H scope (compEnvC scope cl C X.env) fp) pelt (tF S.calm elt)) :
    PE X (.ListComp pelt [⟨tg, iter, ifs, 0⟩] scope pos) (tN S (.comp elt t it cond own)) := by
  subst ho
  exact (pe_lc hc hN hi ok hg ht he (folded_of hset)).mono fun σ H Q h => comp_read hown h
end
end DDS

set_option Elab.async false
set_option linter.all false
set_option maxRecDepth 100000
set_option maxHeartbeats 2000000
namespace DDS
open PySem PySem.Spec PyProof.Rows L2 DD
def PostS (S : Sg) (g : Gh) (H : Hp) (r : R Fl) (D : Ends) : Prop := match r with
  | .ok (.next env') st' => ∀ g' H' σ', Stp g H g' H' → At S σ' H' g' st' env' → D.nx σ' H'
  | .ok (.ret w) st' => ∀ g' H' v, Step S.g0 S.H0 g' H' → Wf S.K g' H' st' → rW S.K S.H0 g' H' w v → D.rt v H'
  | .exc c st' => ∀ g' H' σ', Step S.g0 S.H0 g' H' → Wf S.K g' H' st' → S.W (.ref (S.ca c)) none σ' H'
  | .bad => False
def tS (S : Sg) (s : DD.S) : TS := fun D σ H => ∃ g st env, At S σ H g st env ∧ PostS S g H (evS S.cl s env st) D
def tSs (S : Sg) (ss : List DD.S) : TS := fun D σ H => ∃ g st env, At S σ H g st env ∧ PostS S g H (evSs S.cl ss env st) D
theorem _root_.L2.PS.mono {X : Cx} {st : Stmt} {t t' : TS} (h : PS X st t) (m : ∀ D σ H, t' D σ H → t D σ H) : PS X st t' := ⟨fun pins s σ H D I q => h.run pins s σ H D I (m D σ H q)⟩
theorem _root_.L2.PSs.mono {X : Cx} {st : List Stmt} {t t' : TS} (h : PSs X st t) (m : ∀ D σ H, t' D σ H → t D σ H) : PSs X st t' := ⟨fun pins s σ H D I q => h.run pins s σ H D I (m D σ H q)⟩
section
variable {S : Sg} {σ : Sl} {g g1 : Gh} {H H1 : Hp} {st : Store} {env : Ev} {D : Ends} {α β : Type}
theorem At.len (a : At S σ H g st env) : env.length = σ.length := by obtain ⟨_, _, _, r⟩ := a; exact r.len
theorem PostS.stp {r : R Fl} (s : Stp g H g1 H1) (h : PostS S g H r D) : PostS S g1 H1 r D := by
  cases r with
  | ok fl st' =>
    cases fl with
    | next env' => exact fun g' H' σ' s' a => h g' H' σ' (s.trans s') a
    | ret w => exact h
  | exc c st' => exact h
  | bad => exact h
theorem PostS.imp {r : R Fl} {D' : Ends} (h : PostS S g H r D) (hn : ∀ σ' H' g' st' env', Stp g H g' H' → At S σ' H' g' st' env' → (∀ g'' H'' σ'', Stp g H g'' H'' → At S σ'' H'' g'' st' env' → D.nx σ'' H'') → D'.nx σ' H') (hr : ∀ v H', D.rt v H' → D'.rt v H') : PostS S g H r D' := by
  cases r with
  | ok fl st' =>
    cases fl with
    | next env' => exact fun g' H' σ' s' a => hn σ' H' g' st' env' s' a h
    | ret w => exact fun g' H' v s w r => hr v H' (h g' H' v s w r)
  | exc c st' => exact h
  | bad => exact h
/-- an expression first -/
theorem PostS.expr {r : R α} {f : α → Store → R Fl} {rel : Rl α β} (at_ : At S σ H g st env) (h : PostS S g H (r.bind f) D) :
    Post S σ g H r rel fun x H1 => ∃ g1 st1 d, Step g H g1 H1 ∧ Wf S.K g1 H1 st1 ∧ rel H g1 H1 d x ∧ PostS S g1 H1 (f d st1) D := by
  cases r with
  | ok d st' => exact fun g' H' v s' w' q => ⟨g', st', d, s', w', q, PostS.stp (r := f d st') (s'.stp at_.2.1) h⟩
  | exc c st' => exact fun g' H' s w => h g' H' σ (at_.1.trans s) w
  | bad => exact h
theorem lemS1 {a : E} {rel1 : Rl DD.D V} {f : DD.D → Store → R Fl} (at_ : At S σ H g st env) (h : PostS S g H ((evE S.cl a env st).bind f) D) :
    tE S rel1 a σ H fun x H1 => ∃ g st d, At S σ H1 g st env ∧ rel1 H g H1 d x ∧ PostS S g H1 (f d st) D := by
  refine ⟨g, st, env, at_, (h.expr (rel := rel1) at_).mono fun g' H' d v st' s w r k => ?_⟩
  obtain ⟨g1, st1, d1, s1, w1, r1, h1⟩ := k g' H' v s w r
  exact ⟨g1, st1, d1, at_.step s1 w1, r1, h1⟩
theorem lemS2 {a : E} {rel1 : Rl DD.D V} {f : DD.D → Store → R Fl} (at_ : At S σ H g st env) (h : PostS S g H ((evE S.cl a env st).bind f) D) :
    tE S rel1 a σ H fun x H1 => ∃ g' st' d, Step g H g' H1 ∧ At S σ H1 g' st' env ∧ rel1 H g' H1 d x ∧ PostS S g' H1 (f d st') D := by
  refine ⟨g, st, env, at_, (h.expr (rel := rel1) at_).mono fun g' H' d v st' s w r k => ?_⟩
  obtain ⟨g1, st1, d1, s1, w1, r1, h1⟩ := k g' H' v s w r
  exact ⟨g1, st1, d1, s1, at_.step s1 w1, r1, h1⟩
theorem lemSW {a : WE} {f : W → Store → R Fl} (at_ : At S σ H g st env) (h : PostS S g H ((evW S.cl a env st).bind f) D) :
    tW S a σ H fun x H1 => ∃ g st d, At S σ H1 g st env ∧ rW S.K H g H1 d x ∧ PostS S g H1 (f d st) D := by
  refine ⟨g, st, env, at_, (h.expr (rel := rW S.K) at_).mono fun g' H' d v st' s w r k => ?_⟩
  obtain ⟨g1, st1, d1, s1, w1, r1, h1⟩ := k g' H' v s w r
  exact ⟨g1, st1, d1, at_.step s1 w1, r1, h1⟩
theorem lemSI {it : I} {m : Bool} {f : List DD.D → Store → R Fl} (at_ : At S σ H g st env) (h : PostS S g H ((evI S.cl it env st).bind f) D) :
    wI S m it σ H fun x H1 => ∃ g st d, At S σ H1 g st env ∧ ItOk S.K m g H1 d x ∧ PostS S g H1 (f d st) D := by
  refine ⟨g, st, env, at_, (h.expr (rel := rI m S.K) at_).mono fun g' H' d v st' s w r k => ?_⟩
  obtain ⟨g1, st1, d1, s1, w1, r1, h1⟩ := k g' H' v s w r
  exact ⟨g1, st1, d1, at_.step s1 w1, r1, h1⟩
theorem lemST {a : E} {f : Bool → Store → R Fl} (at_ : At S σ H g st env) (h : PostS S g H ((tested (evE S.cl a env st)).bind f) D) :
    tT S a σ H fun k H1 => ∃ g st, At S σ H1 g st env ∧ PostS S g H1 (f k st) D := by
  refine ⟨g, st, env, at_, (h.expr (rel := rT) at_).mono fun g' H' d v st' s w r k => ?_⟩
  obtain ⟨g1, st1, d1, s1, w1, r1, h1⟩ := k g' H' v s w r
  cases r1
  exact ⟨g1, st1, at_.step s1 w1, h1⟩
/-- a target is bound -/
theorem asg_ok {t : T} {d : DD.D} {v : V} (at_ : At S σ H g st env) (r : RV S.K g H d v) (h : PostS S g H (R.of ((bindT t d env).map .next) st) D) : gT S.K t v σ H D.nx := by
  cases e : bindT t d env with
  | none => rw [e] at h; exact h.elim
  | some env' =>
    rw [e] at h
    obtain ⟨s, w, ow, er⟩ := at_
    exact bind_ok e er r fun σ' ow' er' _ => h g H σ' (Stp.refl _ _) ⟨s, w, ow', er'⟩
/-- a name takes what it alone owns -/
theorem At.setW (at_ : At S σ H g st env) {i : Nat} {w : W} {v : V} (hi : i < env.length) (hl : ∀ ow, EnvR S.K g S.H0 H env σ ow → ∃ os, RW S.K g H w v os ∧ os.Nodup ∧ (∀ a ∈ os, ¬ g.F a ∧ a ∉ g.ks ∧ S.H0 a = none) ∧ ∀ j, j ≠ i → ∀ a ∈ os, a ∉ ow j) : At S (σ.set i (some v)) H g st (env.set i w) := by
  obtain ⟨s, wf, ow, er⟩ := at_
  obtain ⟨os, h1, h2, h3, h4⟩ := hl ow er
  exact ⟨s, wf, _, er.set hi h1 h2 h3 h4⟩
/-- what is new to a start at which all that others own was live -/
theorem rW.new {Hs : Hp} {gs : Gh} {sts : Store} (as : At S σ Hs gs sts env) (s : Step gs Hs g H) {w : W} {v : V} (r : rW S.K Hs g H w v) (ow : Nat → List Addr) (ers : EnvR S.K gs S.H0 Hs env σ ow) : ∃ os, RW S.K g H w v os ∧ os.Nodup ∧ (∀ a ∈ os, ¬ g.F a ∧ a ∉ g.ks ∧ S.H0 a = none) ∧ ∀ (j : Nat), ∀ a ∈ os, a ∉ ow j := by
  obtain ⟨os, h1, nd, h2⟩ := r
  refine ⟨os, h1, nd, fun a ha => ⟨(h2 a ha).1, (h2 a ha).2.1, as.1.live (h2 a ha).2.2⟩, fun j a ha hj => ?_⟩
  obtain ⟨o, e⟩ := ers.live hj
  rw [(h2 a ha).2.2] at e; cases e
end
section
variable {X : Cx} {S : Sg} {pos : Pos} {pa pb pc : Expr} {a b c : E}
/-! ### names are set -/
/-- the part of an assignment to a name: by the expression, or by a comprehension that stores itself -/
def PN (X : Cx) (i : Nat) (x : Str) (px : Pos) (pe : Expr) (pos : Pos) (te : TE) : Prop := PS X (.Assign [.Name x px] pe pos) (tAsg te (gName i))
def isLc : Expr → Bool
  | .ListComp _ _ _ _ => true
  | .SetComp _ _ _ _ => true
  | .DictComp _ _ _ _ _ => true
  | _ => false
theorem sw_plain {pe : Expr} {t : Option Expr} {l : Nat} {env : Env} (h : isLc pe = false) : swapsWith pe t l env = pure false := by
  cases pe <;> first | rfl | cases h
theorem PN.of {i : Nat} {x : Str} {px : Pos} {te : TE} (hN : X.N.Nodup) (hi : X.N[i]? = some x) (hx : Loc X.env.scope x) (hf : X.fn x = true ∨ X.env.scope.names.lookup x = some .local) (hl : isLc pa = false) (he : PE X pa te) : PN X i x px pa pos te :=
  ps_set hN hi hx he (sw_plain hl) hf
theorem PN.mono {i : Nat} {x : Str} {px : Pos} {te te' : TE} (h : PN X i x px pa pos te) (m : ∀ σ H Q, te' σ H Q → te σ H Q) : PN X i x px pa pos te' := PS.mono h fun D σ H q => m σ H _ q
theorem sw_lc {elt : Expr} {gs : List Comprehension} {scope : Scope} {py : Pos} {y : Str} {l : Nat} {env : Env} : swapsWith (.ListComp elt gs scope pos) (some (.Name y py)) l env = pure (env.blockKind == .function && env.kindOf y == some .local && py.line == pos.line && !(scope.names.any fun (n, k) => n == y && (k == .local || k == .cell))) := by
  unfold swapsWith
  simp only [Expr.pos]
theorem PN.lc {i : Nat} {x : Str} {px : Pos} {pelt tg iter : Expr} {ifs : List Expr} {scope : Scope} {ownN : List (Str × Nat)} {elt : E} {t : T} {it : I} {cond : List E} {own : List Nat} {lpos : Pos} (hi : X.N[i]? = some x) (hx : Loc X.env.scope x) (hf : X.fn x = true ∨ X.env.scope.names.lookup x = some .local)
    (hK : X.K = S.K) (hc : X.calm = true) (hN : X.N.Nodup) (ok : BlkOk X.N X.env.scope scope ownN) (ho : own = ownN.map (·.2)) (hown : ∀ j ∈ T.sl t, j ∈ own) (hset : notSet iter = true)
    (hit : PI X tg iter (wI S false it)) (hg : ∀ (s : Shared) (H : Hp) (C : Addr) (cl : List (Str × Addr)) (fp : List Addr), PG (X.blk s H scope (compEnvC scope cl C X.env) fp) tg (gT S.K t))
    (ht : ∀ (s : Shared) (H : Hp) (C : Addr) (cl : List (Str × Addr)) (fp : List Addr), PTs (X.blk s H scope (compEnvC scope cl C X.env) fp) ifs (tTs S.calm cond))
    (he : ∀ (s : Shared) (H : Hp) (C : Addr) (cl : List (Str × Addr)) (fp : List Addr), PE (X.blk s H scope (compEnvC scope cl C X.env) fp) pelt (tF S.calm elt)) :
    PN X i x px (.ListComp pelt [⟨tg, iter, ifs, 0⟩] scope lpos) pos (tN S (.comp elt t it cond own)) := by
  cases e : (X.env.blockKind == .function && X.env.kindOf x == some .local && px.line == lpos.line && !(scope.names.any fun (n, k) => n == x && (k == .local || k == .cell))) with
  | false => exact ps_set hN hi hx (e_comp hK hc hN ok ho hown hset hit hg ht he) (by rw [sw_lc, e]) hf
  | true =>
    subst ho
    have hl : X.env.scope.names.lookup x = some .local := by
      simp only [Bool.and_eq_true] at e
      have e2 := e.1.1.2
      exact eq_of_beq e2
    exact (ps_setLc hc hN hi hl (by rw [sw_lc, e]) hit ok hg ht he (folded_of hset)).mono fun D σ H q => comp_read hown q
theorem s_asgN {i : Nat} {x : Str} {px : Pos} (h : PN X i x px pa pos (tF S a)) : PS X (.Assign [.Name x px] pa pos) (tS S (.asg (.nm i) a)) := by
  refine PS.mono h fun D σ H ⟨g, st, env, at_, h⟩ => ?_
  exact tE_imp (lemS1 (rel1 := rF S.K) at_ h) fun x H1 ⟨g, st, d, a1, r, h1⟩ => asg_ok (t := .nm i) a1 r h1
/-- name = a value that it owns -/
theorem s_asgW {i : Nat} {x : Str} {px : Pos} {w : WE} (h : PN X i x px pa pos (tW S w)) : PS X (.Assign [.Name x px] pa pos) (tS S (.asgO i w)) := by
  refine PS.mono h fun D σ H ⟨g, st, env, at_, h⟩ => ?_
  refine ⟨g, st, env, at_, (PostS.expr (rel := rW S.K) at_ h).mono fun g' H' d v st' s w r k => ?_⟩
  obtain ⟨g1, st1, wv, s1, w1, r1, h1⟩ := k g' H' v s w r
  by_cases hi : i < env.length
  · rw [if_pos hi] at h1
    refine h1 g1 H' _ (Stp.refl _ _) ?_
    obtain ⟨s0, w0, ow, er⟩ := at_
    obtain ⟨os, q1, q2, q3, q4⟩ := rW.new ⟨s0, w0, ow, er⟩ s1 r1 ow er
    exact ⟨s0.trans s1, w1, _, (er.step w0 s1).set hi q1 q2 q3 fun j _ => q4 j⟩
  · rw [if_neg hi] at h1; exact h1.elim
/-- a new list is its name's own -/
theorem tW_new {σ : Sl} {H : Hp} {Q : VK} (h : tW S (.new a) σ H Q) : tN S a σ H Q := by
  obtain ⟨g, st, env, at_, h⟩ := h
  refine ⟨g, st, env, at_, ?_⟩
  simp only [evW] at h
  cases e : evE S.cl a env st with
  | ok d st1 =>
    rw [e] at h
    intro g' H' v s w r
    cases d with
    | lst ds =>
      obtain ⟨p, vs, rfl, h1, h2, h3, h4, h5⟩ := r
      exact h g' H' _ s w ⟨[p], ⟨p, vs, rfl, h1, h2, rfl⟩, by simp, by simpa using ⟨h3, h4, h5⟩⟩
    | dic ks us =>
      cases ks with
      | nil =>
        cases us with
        | nil =>
          obtain ⟨p, kvs, rfl, h1, h2, h3, h4, h5⟩ := r
          exact h g' H' _ s w ⟨[p], ⟨p, kvs, rfl, h1, h2.1, h2.2, rfl⟩, by simp, by simpa using ⟨h3, h4, h5⟩⟩
        | cons u us => exact h.elim
      | cons k ks => exact h.elim
    | _ => exact h.elim
  | exc c st1 => rw [e] at h; exact h
  | bad => rw [e] at h; exact h
theorem tW_e {σ : Sl} {H : Hp} {Q : VK} (h : tW S (.e a) σ H Q) : tF S a σ H Q := by
  obtain ⟨g, st, env, at_, h⟩ := h
  refine ⟨g, st, env, at_, ?_⟩
  simp only [evW] at h
  cases e : evE S.cl a env st with
  | ok d st1 => rw [e] at h; exact fun g' H' v s w r => h g' H' v s w ⟨[], ⟨r, rfl⟩, List.nodup_nil, by simp⟩
  | exc c st1 => rw [e] at h; exact h
  | bad => rw [e] at h; exact h
/-- a new list is a cell -/
theorem tW_cell {σ : Sl} {H : Hp} {Q : VK} (h : tW S (.cell a) σ H Q) : tN S a σ H Q := by
  obtain ⟨g, st, env, at_, h⟩ := h
  refine ⟨g, st, env, at_, ?_⟩
  simp only [evW] at h
  cases e : evE S.cl a env st with
  | ok d st1 =>
    rw [e] at h
    intro g' H' v s w r
    cases d with
    | lst ds =>
      rw [R.bind_ok] at h
      by_cases hn : nolists ds = true
      · simp only [if_pos hn] at h
        obtain ⟨p, vs, rfl, h1, h2, h3, h4, h5⟩ := r
        have hs : Step g' H' ⟨g'.F, g'.ks ++ [p]⟩ H' → True := fun _ => trivial
        refine h ⟨g'.F, g'.ks ++ [p]⟩ H' _ ⟨s.F, s.ks.trans (List.prefix_append _ _), s.kp, s.lv, s.nF, fun x hx => ?_⟩ ⟨?_, ?_, ?_, ?_, w.lv⟩ ⟨[], ⟨⟨p, ?_, rfl⟩, rfl⟩, List.nodup_nil, by simp⟩
        · rcases List.mem_append.mp hx with hx | hx
          · exact s.nk x hx
          · rw [List.mem_singleton] at hx; subst hx; exact .inr h5
        · simp [w.len]
        · rw [List.nodup_append]
          exact ⟨w.nd, by simp, fun x hx y hy z => by rw [List.mem_singleton] at hy; subst hy z; exact h4 hx⟩
        · intro k c q e1 e2
          have hstp : Stp g' H' ⟨g'.F, g'.ks ++ [p]⟩ H' := ⟨fun _ z => z, List.prefix_append _ _, fun _ _ _ z => z, fun _ _ z _ => z, fun _ o z => ⟨o, z⟩⟩
          rcases Nat.lt_or_ge k st1.length with hk | hk
          · rw [List.getElem?_append_left hk] at e1
            rw [List.getElem?_append_left (by rw [w.len]; exact hk)] at e2
            exact (w.cell k c q e1 e2).stp hstp fun _ z => z
          · rw [List.getElem?_append_right hk] at e1
            rw [List.getElem?_append_right (by rw [w.len]; exact hk), w.len] at e2
            cases hk2 : k - st1.length with
            | zero =>
              rw [hk2] at e1 e2
              simp at e1 e2
              subst e1 e2
              exact ⟨vs, h1, h2.stp hstp, hn⟩
            | succ j => rw [hk2] at e1; simp at e1
        · intro x hx
          rcases List.mem_append.mp hx with hx | hx
          · exact w.nF x hx
          · rw [List.mem_singleton] at hx; subst hx; exact h3
        · show (g'.ks ++ [p])[st1.length]? = some p
          rw [← w.len]; simp
      · simp only [if_neg hn] at h; exact h.elim
    | _ => exact h.elim
  | exc c st1 => rw [e] at h; exact h
  | bad => rw [e] at h; exact h
end
end DDS

set_option Elab.async false
set_option linter.all false
set_option maxRecDepth 100000
set_option maxHeartbeats 2000000
namespace DDS
open PySem PySem.Spec PyProof.Rows L2 DD
section
variable {X : Cx} {S : Sg} {pos : Pos} {pa pb pc : Expr} {a b c : E}
/-! ### several names at once -/
theorem s_asgT {tg : Expr} {t : T} (he : PE X pa (tF S a)) (hg : PG X tg (gT S.K t)) (hs : swapsWithSole [tg] pa pos.line X.env = pure false) (hw : swappedStores [tg] pa X.env = pure none) (h1 : (assignEach [tg] X.env).map (·.2) = [assign tg X.env]) :
    PS X (.Assign [tg] pa pos) (tS S (.asg t a)) := by
  refine (ps_asg he hg hs hw h1).mono fun D σ H ⟨g, st, env, at_, h⟩ => ?_
  exact tE_imp (lemS1 (rel1 := rF S.K) at_ h) fun x H1 ⟨g, st, d, a1, r, h1⟩ => asg_ok (t := t) a1 r h1
theorem At.setF {σ : Sl} {H : Hp} {g : Gh} {st : Store} {env : Ev} (at_ : At S σ H g st env) {i : Nat} {d : D} {v : V} (hi : i < env.length) (r : RV S.K g H d v) : At S (σ.set i (some v)) H g st (env.set i (.fz d)) := by
  obtain ⟨s, w, ow, er⟩ := at_
  obtain ⟨ow', er'⟩ := er.setF hi r
  exact ⟨s, w, ow', er'⟩
theorem s_par {i j : Nat} {x y : Str} {px py pt pt2 : Pos} {kt k2 : Nat} (hc : X.calm = true) (hN : X.N.Nodup) (hi : X.N[i]? = some x) (hj : X.N[j]? = some y) (hij : i ≠ j) (hx : X.env.scope.names.lookup x = some .local) (hy : X.env.scope.names.lookup y = some .local)
    (hw : swappedStores [.Tuple [.Name x px, .Name y py] kt pt] (.Tuple [pa, pb] k2 pt2) X.env = pure (some [x, y])) (hs : notStar pa = true) (hs2 : notStar pb = true) (ha : PE X pa (tF S a)) (hb : PE X pb (tF S b)) :
    PS X (.Assign [.Tuple [.Name x px, .Name y py] kt pt] (.Tuple [pa, pb] k2 pt2) pos) (tS S (.par i j a b)) := by
  refine (ps_par hc hN hi hj hij hx hy (PA2 hs hs2 ha hb) hw rfl).mono fun D σ H ⟨g, st, env, at_, h⟩ => ?_
  refine tE_imp (lemS1 (rel1 := rF S.K) at_ h) fun x H1 ⟨g1, st1, d1, a1, r1, h1⟩ => ?_
  refine ⟨g1, st1, env, a1, (PostS.expr (rel := rF S.K) a1 h1).mono fun g' H' d v st' s w r k => ?_⟩
  obtain ⟨g2, st2, d2, s2, w2, r2, h2⟩ := k g' H' v s w r
  by_cases hl : i < env.length ∧ j < env.length
  · rw [if_pos hl] at h2
    refine ⟨x, v, rfl, h2 g2 H' _ (Stp.refl _ _) ?_⟩
    exact ((a1.step s2 w2).setF hl.1 (RV.stp (s2.stp a1.2.1) r1)).setF (by simpa using hl.2) r2
  · rw [if_neg hl] at h2; exact h2.elim
theorem R.bind_bind {α β γ : Type} (r : R α) (f : α → Store → R β) (k : β → Store → R γ) : (r.bind f).bind k = r.bind fun a st => (f a st).bind k := by cases r <;> rfl
/-- three names at once -/
theorem s_par3 {i j l : Nat} {x y z : Str} {px py pz pt pt2 : Pos} {kt k2 : Nat} {es : List E} (hc : X.calm = true) (hN : X.N.Nodup) (hi : X.N[i]? = some x) (hj : X.N[j]? = some y) (hl : X.N[l]? = some z) (hij : i ≠ j) (hil : i ≠ l) (hjl : j ≠ l) (hx : X.env.scope.names.lookup x = some .local) (hy : X.env.scope.names.lookup y = some .local) (hz : X.env.scope.names.lookup z = some .local)
    (hw : swappedStores [.Tuple [.Name x px, .Name y py, .Name z pz] kt pt] (.Tuple [pa, pb, pc] k2 pt2) X.env = pure (some [x, y, z])) (ha : PA X [pa, pb, pc] (tEs S (rFs S.K) es)) :
    PS X (.Assign [.Tuple [.Name x px, .Name y py, .Name z pz] kt pt] (.Tuple [pa, pb, pc] k2 pt2) pos) (tS S (.asg (.tp [.nm i, .nm j, .nm l]) (.tup es))) := by
  refine (ps_par3 hc hN hi hj hl hij hil hjl hx hy hz ha hw rfl).mono fun D σ H ⟨g, st, env, at_, h⟩ => ?_
  simp only [evS, evE, R.bind_bind] at h
  refine ⟨g, st, env, at_, (PostS.expr (rel := rFs S.K) at_ h).mono fun g' H' ds vs st' s w r k => ?_⟩
  obtain ⟨g1, st1, d1, s1, w1, r1, h1⟩ := k g' H' vs s w r
  by_cases hm : d1.length ≤ lim
  · rw [if_pos hm, R.bind_ok] at h1
    match d1, r1, h1 with
    | [], _, h1 => exact h1.elim
    | [d1], _, h1 => simp only [bindT, bindTs] at h1; split at h1 <;> exact h1.elim
    | [d1, d2], _, h1 =>
      simp only [bindT, bindTs] at h1
      split at h1
      · simp only [Option.bind_some] at h1
        split at h1 <;> exact h1.elim
      · exact h1.elim
    | [d1, d2, d3], ⟨u1, _, e1, q1, u2, _, e2, q2, u3, _, e3, q3, e4⟩, h1 =>
      subst e4 e3 e2 e1
      simp only [bindT, bindTs] at h1
      split at h1
      · rename_i l1
        simp only [Option.bind_some] at h1
        split at h1
        · rename_i l2
          simp only [Option.bind_some] at h1
          split at h1
          · rename_i l3
            refine ⟨u1, u2, u3, rfl, h1 g1 H' _ (Stp.refl _ _) ?_⟩
            exact (((at_.step s1 w1).setF l1 q1).setF l2 q2).setF l3 q3
          · exact h1.elim
        · exact h1.elim
      · exact h1.elim
    | d1 :: d2 :: d3 :: d4 :: ds, _, h1 =>
      simp only [bindT, bindTs] at h1
      split at h1
      · simp only [Option.bind_some] at h1
        split at h1
        · simp only [Option.bind_some] at h1
          split at h1 <;> exact h1.elim
        · exact h1.elim
      · exact h1.elim
  · rw [if_neg hm] at h1; exact h1.elim
/-! ### op= -/
theorem op_aug {X : Cx} (o : Bop) (h : o = .add ∨ o = .sub ∨ o = .mul) : PIp X (bopP o) (fun x y H Q => ∃ i j k, x = .int i ∧ y = .int j ∧ binop o (.int i) (.int j) = some (.int k) ∧ Q (.int k) H) := by
  intro pins s σ H x y v u Q I rx ry ⟨i, j, k, e1, e2, e3, q⟩
  subst e1 e2
  rcases h with rfl | rfl | rfl
  · cases e3; exact iop_add pins s σ H _ _ v u Q I rx ry ⟨i, j, rfl, rfl, q⟩
  · cases e3; exact iop_sub pins s σ H _ _ v u Q I rx ry ⟨i, j, rfl, rfl, q⟩
  · simp only [binop] at e3
    split at e3
    · rename_i hm
      cases e3
      obtain ⟨t, rfl⟩ := rx
      obtain ⟨t', rfl⟩ := ry
      exact imul_int ⟨.int _, H, I.tok _, ⟨_, rfl⟩, q⟩ (CMulB.ok hm)
    · cases e3
theorem s_aug {i : Nat} {x : Str} {px : Pos} {o : Bop} (ho : o = .add ∨ o = .sub ∨ o = .mul) (hN : X.N.Nodup) (hi : X.N[i]? = some x) (hx : Loc X.env.scope x) (hf : X.fn x = true ∨ X.env.scope.names.lookup x = some .local) (he : PE X pa (tF S a)) :
    PS X (.AugAssign (.Name x px) (bopP o) pa pos) (tS S (.aug i o a)) := by
  refine (ps_aug hN hi hx he (op_aug o ho) hf).mono fun D σ H ⟨g, st, env, at_, h⟩ => ?_
  simp only [evS] at h
  split at h
  · rename_i n e
    obtain ⟨s0, w0, ow, er⟩ := id at_
    rcases er.sl i _ e with z | ⟨v, e1, z⟩
    · cases z.1
    · have hv : v = .int n := z.1
      subst hv
      refine ⟨_, e1, tE_imp (lemS1 (rel1 := rF S.K) at_ h) fun y H1 ⟨g1, st1, d1, a1, r1, h1⟩ => ?_⟩
      cases d1 <;> try exact h1.elim
      rename_i j
      cases r1
      have hk : ∀ o', binop o (.int n) (.int j) = some o' → ∃ k, o' = .int k := by
        intro o' eo
        rcases ho with rfl | rfl | rfl
        · cases eo; exact ⟨_, rfl⟩
        · cases eo; exact ⟨_, rfl⟩
        · simp only [binop] at eo
          split at eo
          · cases eo; exact ⟨_, rfl⟩
          · cases eo
      cases eb : binop o (.int n) (.int j) with
      | none => simp only [eb] at h1; exact h1.elim
      | some o' =>
        simp only [eb] at h1
        obtain ⟨k, rfl⟩ := hk o' eb
        refine ⟨n, j, k, rfl, rfl, eb, h1 g1 H1 _ (Stp.refl _ _) (a1.setF ?_ rfl)⟩
        have := List.getElem?_eq_some_iff.mp e
        exact this.1
  · exact h.elim
/-! ### items are set -/
theorem EnvR.updOwn {K : PySem.W.Frag} {g : Gh} {H0 H : Hp} {env : Ev} {σ : Sl} {ow : Nat → List Addr} (r : EnvR K g H0 H env σ ow) {i : Nat} {w' : W} {v : V} {p : Addr} {vs : List V} {o : HO} (hi : i < env.length) (hp : p ∈ ow i) (e : H p = some (.lst vs)) (hv : σ[i]? = some (some v))
    (h : RW K g (upd H p o) w' v (ow i)) : EnvR K g H0 (upd H p o) (env.set i w') σ ow where
  len := by simp [r.len]
  sl := fun j x ej => by
    by_cases hj : j = i
    · subst hj
      rw [List.getElem?_set_self hi] at ej
      cases ej
      exact .inr ⟨v, hv, h⟩
    · rw [List.getElem?_set_ne (Ne.symm hj)] at ej
      rcases r.sl j x ej with z | ⟨u, e1, z⟩
      · exact .inl z
      · refine .inr ⟨u, e1, z.stp (Stp.upd (r.own i p hp).1 e) fun b hb q eb => ?_⟩
        rw [upd_ne (fun z => hj (r.dj j i p (by rw [← z]; exact hb) hp))]; exact eb
  nd := r.nd
  dj := r.dj
  own := r.own
  out := fun j hj => r.out j (by simpa using hj)
theorem At.updOwn {σ : Sl} {H : Hp} {g : Gh} {st : Store} {env : Ev} {ow : Nat → List Addr} (s : Step S.g0 S.H0 g H) (w : Wf S.K g H st) (r : EnvR S.K g S.H0 H env σ ow) {i : Nat} {w' : W} {v : V} {p : Addr} {vs : List V} {o : HO} (hi : i < env.length) (hp : p ∈ ow i) (e : H p = some (.lst vs)) (hv : σ[i]? = some (some v))
    (h : RW S.K g (upd H p o) w' v (ow i)) : At S σ (upd H p o) g st (env.set i w') ∧ Stp g H g (upd H p o) :=
  ⟨⟨s.updNew (r.own i p hp).2.2, w.upd (r.own i p hp).1 (r.own i p hp).2.1 e, ow, r.updOwn hi hp e hv h⟩, Stp.upd (r.own i p hp).1 e⟩
theorem lt_of_get {α : Type} {l : List α} {i : Nat} {x : α} (e : l[i]? = some x) : i < l.length := (List.getElem?_eq_some_iff.mp e).1
/-- a slot's own list, by the slot -/
theorem own_slot {K : PySem.W.Frag} {g : Gh} {H0 H : Hp} {env : Ev} {σ : Sl} {ow : Nat → List Addr} (r : EnvR K g H0 H env σ ow) {i : Nat} {ds : List D} (e : env[i]? = some (.own ds)) : ∃ p vs, σ[i]? = some (some (.ref p)) ∧ H p = some (.lst vs) ∧ RVs K g H ds vs ∧ ow i = [p] := by
  rcases r.sl i _ e with z | ⟨v, e1, z⟩
  · cases z.1
  · obtain ⟨p, vs, rfl, h1, h2, h3⟩ := z
    exact ⟨p, vs, e1, h1, h2, h3⟩
theorem nodup_inj {α : Type} : ∀ {l : List α} {i j : Nat} {x : α}, l.Nodup → l[i]? = some x → l[j]? = some x → i = j
  | [], _, _, _, _, h, _ => by simp at h
  | y :: l, 0, 0, _, _, _, _ => rfl
  | y :: l, 0, j + 1, x, n, h1, h2 => by
    rw [List.nodup_cons] at n
    simp at h1 h2; subst h1
    exact absurd (List.mem_of_getElem? h2) n.1
  | y :: l, i + 1, 0, x, n, h1, h2 => by
    rw [List.nodup_cons] at n
    simp at h1 h2; subst h2
    exact absurd (List.mem_of_getElem? h1) n.1
  | y :: l, i + 1, j + 1, x, n, h1, h2 => by
    rw [List.nodup_cons] at n
    have q := nodup_inj (i := i) (j := j) (x := x) n.2 (by simpa using h1) (by simpa using h2)
    omega
def plainSub : Expr → Bool
  | .Slice _ _ _ _ => false
  | _ => true
theorem plainIx_of {pb : Expr} (h : plainSub pb = true) : PlainIx pb := by
  intro o i
  cases pb <;> first | rfl | cases h
theorem pg_item {to ti : TE} {t : TSet} {po : Expr} (h : plainSub pb = true) (ho : PE X po to) (hi : PE X pb ti) (hs : PSet X t) : PG X (.Subscript po pb pos) (gSub to ti t) :=
  pg_sub ho hi hs (by intro v; cases pb <;> first | rfl | cases h)
theorem sw_sub {pe o i : Expr} {p : Pos} {l : Nat} {env : Env} : swapsWithSole [.Subscript o i p] pe l env = pure false := by
  show swapsWith pe (some (.Subscript o i p)) l env = pure false
  cases pe <;> rfl
theorem sw_sub2 {pe o i : Expr} {p : Pos} {env : Env} : swappedStores [.Subscript o i p] pe env = pure none := by
  cases pe <;> rfl
theorem s_setI {i : Nat} {x : Str} {px ps : Pos} (hN : X.N[i]? = some x) (hv : Vis X.env.scope x) (hd : (x == ("__debug__" : Str)) = false) (hcd : (x == ("__classdict__" : Str)) = false) (hp : plainSub pb = true)
    (he : PE X pa (tF S a)) (hk : PE X pb (tF S b)) : PS X (.Assign [.Subscript (.Name x px) pb ps] pa pos) (tS S (.setI i b a)) := by
  refine (ps_asg he (pg_item hp (pe_var hN hv hd hcd) hk set_list) sw_sub sw_sub2 rfl).mono fun D σ H ⟨g, st, env, at_, h⟩ => ?_
  refine tE_imp (lemS1 (rel1 := rF S.K) at_ h) fun v H1 ⟨g1, st1, d1, a1, r1, h1⟩ => ?_
  split at h1
  · rename_i ds e
    obtain ⟨_, _, ow, er⟩ := id a1
    obtain ⟨p, vs, e1, e2, e3, e4⟩ := own_slot er e
    refine ⟨_, e1, tE_imp (lemS2 (rel1 := rF S.K) a1 h1) fun y H2 ⟨g2, st2, d2, ss, a2, r2, h2⟩ => ?_⟩
    cases d2 <;> try exact h2.elim
    rename_i n
    cases r2
    obtain ⟨s2, w2, ow2, er2⟩ := id a2
    obtain ⟨p', vs', e1', e2', e3', e4'⟩ := own_slot er2 e
    rw [e1] at e1'; cases e1'
    cases ep : place ds.length n with
    | none => simp only [ep] at h2; exact h2.elim
    | some j =>
      simp only [ep] at h2
      refine ⟨p, vs', n, j, rfl, rfl, e2', by rw [← place_ix, ← e3'.length]; exact ep, ?_⟩
      have hpo : p ∈ ow2 i := by rw [e4']; simp
      have hst : Stp g2 H2 g2 (upd H2 p (.lst (vs'.set j v))) := Stp.upd (er2.own i p hpo).1 e2'
      obtain ⟨q1, q2⟩ := At.updOwn (o := .lst (vs'.set j v)) s2 w2 er2 (lt_of_get e) hpo e2' e1 (w' := .own (ds.set j d1)) ⟨p, _, rfl, upd_same, RVs.set (RV.stp hst (RV.stp (ss.stp a1.2.1) r1)) j (e3'.stp hst), by rw [e4']⟩
      exact h2 g2 _ σ q2 q1
  · exact h1.elim
/-- an item of a shared list is set -/
theorem s_setC {i : Nat} {x : Str} {px ps : Pos} (hN : X.N[i]? = some x) (hv : Vis X.env.scope x) (hd : (x == ("__debug__" : Str)) = false) (hcd : (x == ("__classdict__" : Str)) = false) (hp : plainSub pb = true)
    (he : PE X pa (tF S a)) (hk : PE X pb (tF S b)) : PS X (.Assign [.Subscript (.Name x px) pb ps] pa pos) (tS S (.setC i b a)) := by
  refine (ps_asg he (pg_item hp (pe_var hN hv hd hcd) hk set_list) sw_sub sw_sub2 rfl).mono fun D σ H ⟨g, st, env, at_, h⟩ => ?_
  refine tE_imp (lemS1 (rel1 := rF S.K) at_ h) fun v H1 ⟨g1, st1, d1, a1, r1, h1⟩ => ?_
  split at h1
  · rename_i r e
    obtain ⟨_, _, ow, er⟩ := id a1
    rcases er.sl i _ e with z | ⟨u, e1, z⟩
    · cases z.1
    obtain ⟨p, ek, rfl⟩ := z.1
    refine ⟨_, e1, tE_imp (lemS2 (rel1 := rF S.K) a1 h1) fun y H2 ⟨g2, st2, d2, ss, a2, r2, h2⟩ => ?_⟩
    have ek2 := prefix_get ss.ks ek
    cases ec : st2[r]? with
    | none => simp only [ec] at h2; exact h2.elim
    | some c =>
      cases c with
      | lst ds =>
        obtain ⟨vs, q1, q2, q3⟩ := a2.2.1.cell r _ p ec ek2
        simp only [ec, Option.bind_some, setCell] at h2
        by_cases hn : nolist d1 = true
        · simp only [if_pos hn] at h2
          cases d2 <;> try exact h2.elim
          rename_i n
          cases r2
          cases ep : place ds.length n with
          | none => simp only [ep] at h2; exact h2.elim
          | some j =>
            simp only [ep, Option.map_some] at h2
            refine ⟨p, vs, n, j, rfl, rfl, q1, by rw [← place_ix, ← q2.length]; exact ep, ?_⟩
            have hpk : p ∈ g2.ks := List.mem_of_getElem? ek2
            have hF : ¬ g2.F p := a2.2.1.nF p hpk
            have hst : Stp g2 H2 g2 (upd H2 p (.lst (vs.set j v))) := Stp.upd hF q1
            have hstep : Step g2 H2 g2 (upd H2 p (.lst (vs.set j v))) := ⟨fun _ z => z, List.prefix_rfl, fun b o eb nb => by rw [upd_ne (fun z => nb (by rw [z]; exact hpk))]; exact eb, hst.lv, fun _ z => .inl z, fun _ z => .inl z⟩
            have hr1 : RV S.K g2 (upd H2 p (.lst (vs.set j v))) d1 v := RV.stp hst (RV.stp (ss.stp a1.2.1) r1)
            have hnl : nolists (ds.set j d1) = true := by
              have key : ∀ (l : List DD.D) (k : Nat), nolists l = true → nolists (l.set k d1) = true := by
                intro l
                induction l with
                | nil => intro k h; simpa using h
                | cons x l ih =>
                  intro k h
                  rw [nolists, Bool.and_eq_true] at h
                  cases k with
                  | zero => simp [nolists, hn, h.2]
                  | succ k => simp [nolists, h.1, ih k h.2]
              exact key ds j q3
            have hw : Wf S.K g2 (upd H2 p (.lst (vs.set j v))) (st2.set r (.lst (ds.set j d1))) := by
              refine ⟨by simp [a2.2.1.len], a2.2.1.nd, fun k c b e3 e4 => ?_, a2.2.1.nF, fun b hb => ?_⟩
              · by_cases hk : k = r
                · subst hk
                  rw [ek2] at e4; cases e4
                  rw [List.getElem?_set_self (lt_of_get ec)] at e3; cases e3
                  exact ⟨_, upd_same, RVs.set hr1 j (q2.stp hst), hnl⟩
                · rw [List.getElem?_set_ne (Ne.symm hk)] at e3
                  refine (a2.2.1.cell k c b e3 e4).stp hst fun o eo => ?_
                  rw [upd_ne (fun z => hk ?_)]; exact eo
                  subst z
                  exact nodup_inj a2.2.1.nd e4 ek2
              · obtain ⟨o, eo⟩ := a2.2.1.lv b hb
                exact ⟨o, by rw [upd_ne (fun z => hF (by rw [← z]; exact hb))]; exact eo⟩
            exact h2 g2 _ σ hst (a2.step hstep hw)
        · simp only [if_neg hn] at h2; exact h2.elim
  · exact h1.elim
end
end DDS

set_option Elab.async false
set_option linter.all false
set_option maxRecDepth 100000
set_option maxHeartbeats 2000000
namespace DDS
open PySem PySem.Spec PyProof.Rows L2 DD
section
variable {X : Cx} {S : Sg} {pos : Pos} {pa pb pc : Expr} {a b c : E}
/-! ### lists grow -/
theorem few1 {cpos : Pos} {env : Env} (hs : notStar pa = true) : ((backTo cpos (starEach [pa] env)).all (fun x => !x.1) && (backToKw cpos (keywordEach [] env)).all (fun x => x.1.isSome)
      && decide (([pa] : List Expr).length + ([] : List Keyword).length + (if ([] : List Keyword).isEmpty then 0 else 1) < 30)) = true := by
  rw [star_cons hs]; rfl
theorem s_app {i : Nat} {x : Str} {px apos cpos : Pos} (hN : X.N[i]? = some x) (hv : Vis X.env.scope x) (hd : (x == ("__debug__" : Str)) = false) (hcd : (x == ("__classdict__" : Str)) = false) (hs : notStar pa = true) (hline : (apos.endLine == cpos.line) = true)
    (he : PE X pa (tF S a)) : PS X (.Expr (.Call (.Attribute (.Name x px) "append" apos) [pa] [] cpos) pos) (tS S (.app i a)) := by
  refine (ps_expr (pe_bm PySem.F.plainAttrs_list PySem.F.slot_list_append PySem.F.type_list_append mt_append (pe_var hN hv hd hcd) (PA1 hs he) rfl (few1 hs) hline (star_cons hs) rfl) rfl).mono fun D σ H ⟨g, st, env, at_, h⟩ => ?_
  simp only [evS] at h
  split at h
  · rename_i ds e
    obtain ⟨_, _, ow, er⟩ := id at_
    obtain ⟨p, vs, e1, e2, e3, e4⟩ := own_slot er e
    refine ⟨_, e1, .inl ⟨rfl, vs, .inl (.inl e2)⟩, tE_imp (lemS1 (rel1 := rF S.K) at_ h) fun y H2 ⟨g2, st2, d2, a2, r2, h2⟩ => ?_⟩
    obtain ⟨s2, w2, ow2, er2⟩ := id a2
    obtain ⟨p', vs', e1', e2', e3', e4'⟩ := own_slot er2 e
    rw [e1] at e1'; cases e1'
    by_cases hz : ds.length < lim
    · rw [if_pos hz] at h2
      have hpo : p ∈ ow2 i := by rw [e4']; simp
      have hst : Stp g2 H2 g2 (upd H2 p (.lst (vs' ++ [y]))) := Stp.upd (er2.own i p hpo).1 e2'
      refine ⟨p, vs', y, rfl, rfl, e2', by rw [← e3'.length]; exact Nat.lt_of_lt_of_le hz lim_le, ?_⟩
      obtain ⟨q1, q2⟩ := At.updOwn (o := .lst (vs' ++ [y])) s2 w2 er2 (lt_of_get e) hpo e2' e1 (w' := .own (ds ++ [d2])) ⟨p, _, rfl, upd_same, (e3'.stp hst).append ⟨y, [], rfl, RV.stp hst r2, rfl⟩, by rw [e4']⟩
      exact h2 g2 _ σ q2 q1
    · rw [if_neg hz] at h2; exact h2.elim
  · exact h.elim
theorem s_ext {i : Nat} {x : Str} {px apos cpos : Pos} (hN : X.N[i]? = some x) (hv : Vis X.env.scope x) (hd : (x == ("__debug__" : Str)) = false) (hcd : (x == ("__classdict__" : Str)) = false) (hs : notStar pa = true) (hline : (apos.endLine == cpos.line) = true)
    (he : PE X pa (tF S a)) : PS X (.Expr (.Call (.Attribute (.Name x px) "extend" apos) [pa] [] cpos) pos) (tS S (.ext i a)) := by
  refine (ps_expr (pe_bm PySem.F.plainAttrs_list PySem.F.slot_list_extend PySem.F.type_list_extend mt_extend (pe_var hN hv hd hcd) (PA1 hs he) rfl (few1 hs) hline (star_cons hs) rfl) rfl).mono fun D σ H ⟨g, st, env, at_, h⟩ => ?_
  simp only [evS] at h
  split at h
  · rename_i ds e
    obtain ⟨_, _, ow, er⟩ := id at_
    obtain ⟨p, vs, e1, e2, e3, e4⟩ := own_slot er e
    refine ⟨_, e1, .inl ⟨rfl, vs, .inl (.inl e2)⟩, tE_imp (lemS1 (rel1 := rF S.K) at_ h) fun y H2 ⟨g2, st2, d2, a2, r2, h2⟩ => ?_⟩
    obtain ⟨s2, w2, ow2, er2⟩ := id a2
    obtain ⟨p', vs', e1', e2', e3', e4'⟩ := own_slot er2 e
    rw [e1] at e1'; cases e1'
    cases d2 <;> try exact h2.elim
    rename_i es
    obtain ⟨b, zs, rfl, hb, e5, e6⟩ := r2
    by_cases hz : ds.length + es.length ≤ lim
    · simp only [if_pos hz] at h2
      have hpo : p ∈ ow2 i := by rw [e4']; simp
      have hst : Stp g2 H2 g2 (upd H2 p (.lst (vs' ++ zs))) := Stp.upd (er2.own i p hpo).1 e2'
      refine ⟨p, b, vs', zs, rfl, rfl, e2', e5, by rw [← e3'.length, ← e6.length]; exact Nat.le_trans hz lim_le, ?_⟩
      obtain ⟨q1, q2⟩ := At.updOwn (o := .lst (vs' ++ zs)) s2 w2 er2 (lt_of_get e) hpo e2' e1 (w' := .own (ds ++ es)) ⟨p, _, rfl, upd_same, (e3'.stp hst).append (e6.stp hst), by rw [e4']⟩
      exact h2 g2 _ σ q2 q1
    · simp only [if_neg hz] at h2; exact h2.elim
  · exact h.elim
/-! ### plain statements -/
theorem s_expr (hl : isLc pa = false) (he : PE X pa (tF S a)) : PS X (.Expr pa pos) (tS S (.expr a)) := by
  refine (ps_expr he (sw_plain hl)).mono fun D σ H ⟨g, st, env, at_, h⟩ => ?_
  exact tE_imp (lemS2 (rel1 := rF S.K) at_ h) fun y H2 ⟨g2, st2, d2, ss, a2, r2, h2⟩ => h2 g2 H2 σ (Stp.refl _ _) a2
theorem s_pass : PS X (.Pass pos) (tS S .pass) := ps_pass.mono fun D σ H ⟨g, st, env, at_, h⟩ => h g H σ (Stp.refl _ _) at_
theorem s_ife {A B : List Stmt} {sa sb : List DD.S} (hc : PT X pa (tT S a)) (ha : PSs X A (tSs S sa)) (hb : PSs X B (tSs S sb)) : PS X (.If pa A B pos) (tS S (.ife a sa sb)) := by
  refine (ps_if hc ha hb).mono fun D σ H ⟨g, st, env, at_, h⟩ => ?_
  refine tT_imp (lemST at_ h) fun k H1 ⟨g1, st1, a1, h1⟩ => ?_
  cases k with
  | true => rw [if_pos rfl] at h1 ⊢; exact ⟨g1, st1, env, a1, h1⟩
  | false => rw [if_neg Bool.false_ne_true] at h1 ⊢; exact ⟨g1, st1, env, a1, h1⟩
theorem ss_nil : PSs X [] (tSs S []) := pss_nil.mono fun D σ H ⟨g, st, env, at_, h⟩ => h g H σ (Stp.refl _ _) at_
theorem ss_cons {P : Stmt} {Ps : List Stmt} {s : DD.S} {ss : List DD.S} (h1 : PS X P (tS S s)) (h2 : PSs X Ps (tSs S ss)) : PSs X (P :: Ps) (tSs S (s :: ss)) := by
  refine (pss_cons h1 h2).mono fun D σ H ⟨g, st, env, at_, h⟩ => ⟨g, st, env, at_, ?_⟩
  simp only [evSs] at h
  cases e : evS S.cl s env st with
  | ok fl st1 =>
    rw [e] at h
    cases fl with
    | next env' => exact fun g' H' σ' s' a' => ⟨g', st1, env', a', PostS.stp s' h⟩
    | ret w => exact h
  | exc c st1 => rw [e] at h; exact h
  | bad => rw [e] at h; exact h
/-- a slot's list is frozen: nothing happens -/
theorem ss_frz {Ps : List Stmt} {i : Nat} {ss : List DD.S} (h2 : PSs X Ps (tSs S ss)) : PSs X Ps (tSs S (.frz i :: ss)) := by
  refine h2.mono fun D σ H ⟨g, st, env, at_, h⟩ => ?_
  simp only [evSs, evS, setSlot] at h
  cases e : env[i]? with
  | none => rw [e] at h; exact h.elim
  | some w =>
    rw [e] at h
    obtain ⟨s, wf, ow, er⟩ := at_
    rcases er.sl i _ e with z | ⟨v, e1, z⟩
    · rw [z.1] at h; exact h.elim
    · cases ef : frzW w with
      | none => simp only [ef] at h; exact h.elim
      | some w' =>
        simp only [ef, R.bind_ok] at h
        have ew : w' = .fz w.d := by cases w <;> cases ef <;> rfl
        subst ew
        have hst : Stp g H (g.more (ow i)) H := Stp.more
        refine ⟨g.more (ow i), st, env.set i (.fz w.d), ⟨s.more fun a ha => (er.own i a ha).2.2, wf.more (fun a ha => z.live ha) fun a ha => (er.own i a ha).2.1, fun j => if j = i then [] else ow j, ?_⟩, PostS.stp hst h⟩
        refine ⟨by simp [er.len], fun j x ej => ?_, fun j => ?_, fun j k a h1 h2 => ?_, fun j a ha => ?_, fun j hj => ?_⟩
        · by_cases hj : j = i
          · subst hj
            rw [List.getElem?_set_self (lt_of_get e)] at ej; cases ej
            exact .inr ⟨v, e1, RW.frz (fun _ q => q) z, by simp⟩
          · rw [List.getElem?_set_ne (Ne.symm hj)] at ej
            rw [if_neg hj]
            rcases er.sl j x ej with q | ⟨u, e2, q⟩
            · exact .inl q
            · exact .inr ⟨u, e2, q.stp hst fun _ _ _ q => q⟩
        · by_cases hj : j = i
          · rw [if_pos hj]; exact List.nodup_nil
          · rw [if_neg hj]; exact er.nd j
        · by_cases hj : j = i
          · rw [if_pos hj] at h1; cases h1
          · by_cases hk : k = i
            · rw [if_pos hk] at h2; cases h2
            · rw [if_neg hj] at h1; rw [if_neg hk] at h2; exact er.dj j k a h1 h2
        · by_cases hj : j = i
          · rw [if_pos hj] at ha; cases ha
          · rw [if_neg hj] at ha
            obtain ⟨q1, q2, q3⟩ := er.own j a ha
            refine ⟨fun q => ?_, q2, q3⟩
            rcases q with q | q
            · exact q1 q
            · exact hj (er.dj j i a ha q)
        · rw [List.length_set] at hj
          by_cases hji : j = i
          · rw [if_pos hji]
          · rw [if_neg hji]; exact er.out j hj
/-! ### loops -/
theorem s_whl {B : List Stmt} {sb : List DD.S} (po : PassesOwn (model X.prog X.w) X.A X.env X.xe) (hc : PT X pa (tT S a)) (hb : PSs X B (tSs S sb)) : PS X (.While pa B [] pos) (tS S (.whl a sb)) := by
  refine (ps_while po hc hb).mono fun D σ H ⟨g, st, env, at_, h⟩ => ?_
  simp only [evS] at h
  have hne : whC (fun env st => tested (evE S.cl a env st)) (fun env st => evSs S.cl sb env st) env st ≠ .bad := fun z => by rw [z] at h; exact h
  obtain ⟨n, hn⟩ := whC_ends rfl hne
  refine ⟨fun m σ H => ∃ g st env, At S σ H g st env ∧ ∃ r, whN (fun env st => tested (evE S.cl a env st)) (fun env st => evSs S.cl sb env st) m env st = some r ∧ PostS S g H r D, ⟨n, g, st, env, at_, _, hn, h⟩, ?_⟩
  rintro m σ H ⟨g, st, env, at_, r, hr, h⟩
  cases m with
  | zero => simp [whN] at hr
  | succ m =>
    simp only [whN] at hr
    refine ⟨g, st, env, at_, ?_⟩
    cases e : tested (evE S.cl a env st) with
    | exc c s => simp only [e] at hr; cases hr; exact fun g' H' s' w' => h g' H' σ (at_.1.trans s') w'
    | bad => simp only [e] at hr; cases hr; exact h
    | ok k st1 =>
      simp only [e] at hr
      rintro g' H' _ s' w' rfl
      have a1 := at_.step s' w'
      have hst := s'.stp at_.2.1
      cases k with
      | false =>
        rw [if_neg Bool.false_ne_true]
        cases hr
        exact h g' H' σ hst a1
      | true =>
        rw [if_pos rfl]
        simp only at hr
        refine ⟨fun σ2 H2 => ∃ g2 st2 env2, At S σ2 H2 g2 st2 env2 ∧ ∃ r, whN (fun env st => tested (evE S.cl a env st)) (fun env st => evSs S.cl sb env st) m env2 st2 = some r ∧ PostS S g2 H2 r D, fun σ2 H2 z => ⟨m, Nat.lt_succ_self m, z⟩, g', st1, env, a1, ?_⟩
        cases e2 : evSs S.cl sb env st1 with
        | exc c s => simp only [e2] at hr; cases hr; exact h
        | bad => simp only [e2] at hr; cases hr; exact h
        | ok fl st2 =>
          cases fl with
          | ret w => simp only [e2] at hr; cases hr; exact h
          | next env2 =>
            simp only [e2] at hr
            exact fun g2 H2 σ2 s2 a2 => ⟨g2, st2, env2, a2, r, hr, PostS.stp (hst.trans s2) h⟩
theorem s_for {tg iter : Expr} {t : T} {it : I} {B : List Stmt} {sb : List DD.S} (hK : X.K = S.K) (po : PassesOwn (model X.prog X.w) X.A X.env X.xe) (hc : X.calm = true) (hset : notSet iter = true) (hi : PI X tg iter (wI S true it)) (hg : PG X tg (gT S.K t)) (hb : PSs X B (tSs S sb)) :
    PS X (.For tg iter B [] pos) (tS S (.for_ t it sb)) := by
  refine (ps_for po hc hi hg hb (folded_of hset)).mono fun D σ H ⟨g, st, env, at_, h⟩ => ?_
  obtain ⟨g0, st0, env0, a0, h0⟩ := lemSI (m := true) at_ h
  refine ⟨g0, st0, env0, a0, h0.mono fun g' H' xs J st' s w r k => ?_⟩
  obtain ⟨g1, st1, xs1, a1, r1, h1⟩ := k g' H' J s w r
  obtain ⟨G, Y, hw, hG, hY⟩ := r1.ex
  refine for_it hw (fun i σc Hc => ∃ gi sti envi, Stp g1 H' gi Hc ∧ At S σc Hc gi sti envi ∧ PostS S gi Hc (forGo t (fun env st => evSs S.cl sb env st) (xs1.drop i) envi sti) D) ⟨g1, st1, env, Stp.refl _ _, a1, by simpa using h1⟩ ?_ ?_ ?_
  · rintro i σc Hc hi ⟨gi, sti, envi, s1, _⟩
    exact hG gi Hc s1
  · rintro i x σc Hc Hc' hi ⟨gi, sti, envi, s1, ai, hp⟩ hy
    have ex : xs1[i]? = some xs1[i] := List.getElem?_eq_getElem hi
    rw [List.drop_eq_getElem_cons hi] at hp
    simp only [forGo] at hp
    cases eb : bindT t xs1[i] envi with
    | none => rw [eb] at hp; exact hp.elim
    | some env' =>
      simp only [eb] at hp
      have hs : Step gi Hc gi Hc' ∧ Wf S.K gi Hc' sti ∧ RV S.K gi Hc' xs1[i] x := by
        rcases hY i xs1[i] x gi Hc Hc' ex s1 hy with ⟨e, r⟩ | ⟨p, o, e1, e2, r⟩
        · rw [e]; exact ⟨Step.refl _ _, ai.2.1, r⟩
        · rw [e2] at r ⊢; exact ⟨Step.alloc e1, ai.2.1.alloc e1, r⟩
      obtain ⟨hs, w', rx⟩ := hs
      have hst := hs.stp ai.2.1
      obtain ⟨sa, _, ow, er⟩ := ai.step hs w'
      refine bind_ok eb er rx fun σ2 ow2 er2 _ => ⟨gi, sti, env', ⟨sa, w', ow2, er2⟩, ?_⟩
      cases e2 : evSs S.cl sb env' sti with
      | exc c s => rw [e2] at hp; exact hp
      | bad => rw [e2] at hp; exact hp
      | ok fl st2 =>
        rw [e2] at hp
        cases fl with
        | ret w => exact hp
        | next env2 => exact fun g2 H2 σ3 s2 a2 => ⟨g2, st2, env2, (s1.trans hst).trans s2, a2, PostS.stp (hst.trans s2) hp⟩
  · rintro σc Hc ⟨gi, sti, envi, s1, ai, hp⟩
    rw [List.drop_length] at hp
    exact hp gi Hc σc (Stp.refl _ _) ai
/-! ### return, raise -/
theorem s_ret (he : PE X pa (tF S a)) : PS X (.Return (some pa) pos) (tS S (.ret a)) := by
  refine (ps_ret he).mono fun D σ H ⟨g, st, env, at_, h⟩ => ?_
  exact tE_imp (lemS2 (rel1 := rF S.K) at_ h) fun y H2 ⟨g2, st2, d2, ss, a2, r2, h2⟩ => h2 g2 H2 y a2.1 a2.2.1 ⟨[], ⟨r2, rfl⟩, List.nodup_nil, by simp⟩
theorem s_retW {w : WE} (he : PE X pa (tW S w)) : PS X (.Return (some pa) pos) (tS S (.retW w)) := by
  refine (ps_ret he).mono fun D σ H ⟨g, st, env, at_, h⟩ => ?_
  refine ⟨g, st, env, at_, (PostS.expr (rel := rW S.K) at_ h).mono fun g' H' d v st' s w r k => ?_⟩
  obtain ⟨g1, st1, wv, s1, w1, ⟨os, r1, r2, r3⟩, h1⟩ := k g' H' v s w r
  exact h1 g1 H' v (at_.1.trans s1) w1 ⟨os, r1, r2, fun b hb => ⟨(r3 b hb).1, (r3 b hb).2.1, at_.1.live (r3 b hb).2.2⟩⟩
theorem s_retMv {i : Nat} {x : Str} {px : Pos} (hN : X.N[i]? = some x) (hv : Vis X.env.scope x) (hd : (x == ("__debug__" : Str)) = false) (hcd : (x == ("__classdict__" : Str)) = false) : PS X (.Return (some (.Name x px)) pos) (tS S (.retW (.mv i))) := by
  refine (ps_ret (pe_var hN hv hd hcd)).mono fun D σ H ⟨g, st, env, at_, h⟩ => ?_
  obtain ⟨s, w, ow, er⟩ := at_
  simp only [evS, evW] at h
  rcases e : env[i]? with _ | x
  · rw [e] at h; exact h.elim
  · rcases er.sl i _ e with z | ⟨v, e1, z⟩
    · rw [z.1] at e; rw [e] at h; exact h.elim
    · refine ⟨v, e1, ?_⟩
      have h' : PostS S g H (.ok (.ret x) st) D := by
        rw [e] at h
        cases x <;> first | exact h | exact h.elim
      exact h' g H v s w ⟨ow i, z, er.nd i, er.own i⟩
theorem s_rais {cn : Nat} {x m : Str} {j : Nat} {p p2 p3 : Pos} (hc : X.calm = true) (tk : L2N.Takes X S.W) (q : PySem.W.excIn X.K (S.ca cn) He.veBase "ValueError.__new__" = true) (gC : X.mg x = some (.ref (S.ca cn))) (kC : PySem.W.keepIn X.K (.ref (S.ca cn)) = true)
    (sC : PySem.W.subIn X.K (.ref (S.ca cn)) (.type "BaseException") = some true) (tC : PySem.W.typeIn X.K (.ref (S.ca cn)) = some (.type "type")) (hg : Gl X x) (hdb : (x == ("__debug__" : Str)) = false) :
    PS X (.Raise (some (.Call (.Name x p) [.Constant (.str m) j p2] [] p3)) none pos) (tS S (.rais cn)) := by
  refine (L2N.ps_raise hc tk (L2N.pmk_own PySem.F.excBase_ValueError q gC kC (raises_own sC tC) hg hdb)).mono fun D σ H ⟨g, st, env, at_, h⟩ => ?_
  exact h g H σ at_.1 at_.2.1
end
end DDS

set_option Elab.async false
set_option linter.all false
set_option maxRecDepth 100000
set_option maxHeartbeats 2000000
namespace DDS
open PySem PySem.Spec PyProof.Rows L2 DD
/-! ### lists of lists, each its holder's own -/
theorem ownsOf_append : ∀ {acc : List D} {d : D} {ws : List W}, DD.ownsOf (acc ++ [d]) = some ws → ∃ ws' ds, DD.ownsOf acc = some ws' ∧ d = .lst ds ∧ ws = ws' ++ [.own ds]
  | [], d, ws, h => by
    cases d <;> simp [DD.ownsOf] at h
    subst h
    exact ⟨[], _, rfl, rfl, rfl⟩
  | x :: acc, d, ws, h => by
    cases x <;> simp [DD.ownsOf] at h
    obtain ⟨w1, h1, rfl⟩ := h
    obtain ⟨ws', ds, e1, e2, e3⟩ := ownsOf_append h1
    rename_i xs
    exact ⟨.own xs :: ws', ds, by simp [DD.ownsOf, e1], e2, by simp [e3]⟩
theorem RWs.append {K : PySem.W.Frag} {g : Gh} {H : Hp} : ∀ {ws us : List W} {vs xs : List V} {os ps : List Addr}, RWs K g H ws vs os → RWs K g H us xs ps → RWs K g H (ws ++ us) (vs ++ xs) (os ++ ps)
  | [], _, _, _, _, _, h, h' => by obtain ⟨rfl, rfl⟩ := h; exact h'
  | w :: ws, _, _, _, _, _, h, h' => by
    obtain ⟨v, vs', o1, o2, rfl, h1, h2, rfl⟩ := h
    exact ⟨v, _, o1, _, rfl, h1, RWs.append h2 h', by simp⟩
/-- one of the lists is set -/
theorem RWs.setAt {K : PySem.W.Frag} {g : Gh} {H : Hp} : ∀ {ws : List W} {vs : List V} {os : List Addr} {p : Nat} {ds : List D}, RWs K g H ws vs os → os.Nodup → ws[p]? = some (.own ds) →
    ∃ b us, vs[p]? = some (.ref b) ∧ H b = some (.lst us) ∧ RVs K g H ds us ∧ b ∈ os ∧ ∀ (ds' : List D) (us' : List V), ¬ g.F b → RVs K g (upd H b (.lst us')) ds' us' → RWs K g (upd H b (.lst us')) (ws.set p (.own ds')) vs os
  | [], _, _, _, _, _, _, h => by simp at h
  | w :: ws, _, _, 0, ds, h, nd, e => by
    obtain ⟨v, vs', o1, o2, rfl, h1, h2, rfl⟩ := h
    simp at e
    subst e
    obtain ⟨b, us, rfl, e1, e2, rfl⟩ := h1
    refine ⟨b, us, rfl, e1, e2, by simp, fun ds' us' nF r => ?_⟩
    refine ⟨.ref b, vs', [b], o2, rfl, ⟨b, us', rfl, upd_same, r, rfl⟩, RWs.stp (Stp.upd nF e1) (fun a ha o eo => ?_) h2, rfl⟩
    rw [upd_ne (fun z => ?_)]
    · exact eo
    · subst z
      rw [List.nodup_append] at nd
      exact nd.2.2 a (by simp) a ha rfl
  | w :: ws, _, _, p + 1, ds, h, nd, e => by
    obtain ⟨v, vs', o1, o2, rfl, h1, h2, rfl⟩ := h
    rw [List.nodup_append] at nd
    obtain ⟨b, us, q1, q2, q3, q4, q5⟩ := RWs.setAt (p := p) h2 nd.2.1 (by simpa using e)
    refine ⟨b, us, by simpa using q1, q2, q3, by simp [q4], fun ds' us' nF r => ?_⟩
    refine ⟨v, vs', o1, o2, rfl, RW.stp (Stp.upd nF q2) (fun a ha o eo => ?_) h1, q5 ds' us' nF r, rfl⟩
    rw [upd_ne (fun z => ?_)]
    · exact eo
    · subst z
      exact nd.2.2 a ha a q4 rfl
section
variable {X : Cx} {S : Sg} {pos : Pos} {pa pb pc : Expr} {a b c : E} {elt : E} {t : T} {it : I} {own : List Nat}
/-- what a comprehension of new lists has gathered -/
def RAo (K : PySem.W.Frag) (D : Addr) (Hb : Hp) (g : Gh) (H : Hp) (acc : List DD.D) (av : List V) : Prop := ∀ ws, DD.ownsOf acc = some ws → ∃ os, RWs K g H ws av os ∧ os.Nodup ∧ ∀ a ∈ os, ¬ g.F a ∧ a ∉ g.ks ∧ Hb a = none ∧ a ≠ D
theorem comp_readL {Q : VK} {σ : Sl} {H : Hp} (hown : ∀ j ∈ T.sl t, j ∈ own) (h : tW S (.compL elt t it own) σ H Q) : tLc (wI S false it) (gT S.K t) (tTs S.calm []) (tN S.calm elt) own σ H Q := by
  obtain ⟨g, st, env, at_, h⟩ := h
  refine ⟨g, st, env, at_, (Post.bind (rel1 := rI false S.K) up_W h).mono fun g' H' d v st' s w r k => ?_⟩
  obtain ⟨g1, st1, xs, s1, w1, r1, h1⟩ := k g' H' v s w r
  have ec : (fun (_ : Ev) (st : Store) => R.ok true st) = fun env st => evC S.cl [] env st := by
    funext env st; simp only [evC]
  rw [ec] at h1
  cases e : compGo t (fun env st => evC S.cl [] env st) (fun env st => evE S.cl elt env st) xs (DD.wipe env own) st1 with
  | exc c s => exact (compGo_noexc e).elim
  | bad => rw [e] at h1; exact h1.elim
  | ok ds stf =>
    rw [e] at h1
    simp only [R.bind_ok] at h1
    by_cases hz : ds.length ≤ lim
    · rw [if_pos hz] at h1
      refine comp_core (Fe := fun env st => evE S.cl elt env st) (tEl := tN S.calm elt) (fun _ _ _ h => h) (cond := []) (relE := rN S.K) (RA := RAo S.K) hown (fun _ _ _ _ ws hw => ?_) (fun D Hb g H g' H' st acc av ra wf s ws hw => ?_) (fun D Hb g H acc av vs o ra nF eD ws hw => ?_)
        (fun D Hb Hs gs g H acc av vs d y st ra wf s hl eD ry ws hw => ?_) (at_.step s1 w1) r1 e hz fun g2 H2 D av s2 w2 eD nF nk hD ra => ?_
      · cases hw
        exact ⟨[], ⟨rfl, rfl⟩, List.nodup_nil, by simp⟩
      · obtain ⟨os, q1, q2, q3⟩ := ra ws hw
        refine ⟨os, RWs.stp (s.stp wf) (fun a ha o eo => s.kp a o eo (q3 a ha).2.1) q1, q2, fun a ha => ?_⟩
        obtain ⟨o, eo⟩ := q1.live ha
        refine ⟨fun z => ?_, fun z => ?_, (q3 a ha).2.2⟩
        · rcases s.nF a z with q | q
          · exact (q3 a ha).1 q
          · rw [eo] at q; cases q
        · rcases s.nk a z with q | q
          · exact (q3 a ha).2.1 q
          · rw [eo] at q; cases q
      · obtain ⟨os, q1, q2, q3⟩ := ra ws hw
        exact ⟨os, RWs.stp (Stp.upd nF eD) (fun a ha o eo => by rw [upd_ne (q3 a ha).2.2.2]; exact eo) q1, q2, q3⟩
      · obtain ⟨ws', xs, e1, rfl, rfl⟩ := ownsOf_append hw
        obtain ⟨os, q1, q2, q3⟩ := ra ws' e1
        obtain ⟨p, us, rfl, y1, y2, y3, y4, y5⟩ := ry
        have hno : p ∉ os := fun z => by
          obtain ⟨o, eo⟩ := q1.live z
          rw [y5] at eo; cases eo
        refine ⟨os ++ [p], RWs.append (RWs.stp (s.stp wf) (fun a ha o eo => s.kp a o eo (q3 a ha).2.1) q1) ⟨.ref p, [], [p], [], rfl, ⟨p, us, rfl, y1, y2, rfl⟩, ⟨rfl, rfl⟩, rfl⟩, ?_, fun a ha => ?_⟩
        · rw [List.nodup_append]
          exact ⟨q2, by simp, fun a ha b hb z => by rw [List.mem_singleton] at hb; subst hb z; exact hno ha⟩
        · rcases List.mem_append.mp ha with ha | ha
          · obtain ⟨o, eo⟩ := q1.live ha
            refine ⟨fun z => ?_, fun z => ?_, (q3 a ha).2.2⟩
            · rcases s.nF a z with q | q
              · exact (q3 a ha).1 q
              · rw [eo] at q; cases q
            · rcases s.nk a z with q | q
              · exact (q3 a ha).2.1 q
              · rw [eo] at q; cases q
          · rw [List.mem_singleton] at ha
            subst ha
            exact ⟨y3, y4, hl _ y5, fun z => by subst z; rw [eD] at y5; cases y5⟩
      · cases ew : DD.ownsOf ds with
        | none => rw [ew] at h1; exact h1.elim
        | some ws =>
          rw [ew] at h1
          obtain ⟨os, q1, q2, q3⟩ := ra ws ew
          refine h1 g2 H2 _ s2 w2 ⟨D :: os, ⟨D, av, os, rfl, eD, q1, rfl⟩, ?_, fun a ha => ?_⟩
          · rw [List.nodup_cons]
            exact ⟨fun z => (q3 D z).2.2.2 rfl, q2⟩
          · rcases List.mem_cons.mp ha with rfl | ha
            · exact ⟨nF, nk, hD⟩
            · exact ⟨(q3 a ha).1, (q3 a ha).2.1, (q3 a ha).2.2.1⟩
    · rw [if_neg hz] at h1; exact h1.elim
theorem e_compL {pelt tg iter : Expr} {scope : Scope} {ownN : List (Str × Nat)} (hc : X.calm = true) (hN : X.N.Nodup) (ok : BlkOk X.N X.env.scope scope ownN) (ho : own = ownN.map (·.2)) (hown : ∀ j ∈ T.sl t, j ∈ own) (hset : notSet iter = true)
    (hi : PI X tg iter (wI S false it)) (hg : ∀ (s : Shared) (H : Hp) (C : Addr) (cl : List (Str × Addr)) (fp : List Addr), PG (X.blk s H scope (compEnvC scope cl C X.env) fp) tg (gT S.K t))
    (ht : ∀ (s : Shared) (H : Hp) (C : Addr) (cl : List (Str × Addr)) (fp : List Addr), PTs (X.blk s H scope (compEnvC scope cl C X.env) fp) [] (tTs S.calm []))
    (he : ∀ (s : Shared) (H : Hp) (C : Addr) (cl : List (Str × Addr)) (fp : List Addr), PE (X.blk s H scope (compEnvC scope cl C X.env) fp) pelt (tN S.calm elt)) :
    PE X (.ListComp pelt [⟨tg, iter, [], 0⟩] scope pos) (tW S (.compL elt t it own)) := by
  subst ho
  exact (pe_lc hc hN hi ok hg ht he (folded_of hset)).mono fun σ H Q h => comp_readL hown h
theorem PN.lcL {i : Nat} {x : Str} {px : Pos} {pelt tg iter : Expr} {scope : Scope} {ownN : List (Str × Nat)} {lpos : Pos} (hi : X.N[i]? = some x) (hx : Loc X.env.scope x) (hf : X.fn x = true ∨ X.env.scope.names.lookup x = some .local)
    (hc : X.calm = true) (hN : X.N.Nodup) (ok : BlkOk X.N X.env.scope scope ownN) (ho : own = ownN.map (·.2)) (hown : ∀ j ∈ T.sl t, j ∈ own) (hset : notSet iter = true)
    (hit : PI X tg iter (wI S false it)) (hg : ∀ (s : Shared) (H : Hp) (C : Addr) (cl : List (Str × Addr)) (fp : List Addr), PG (X.blk s H scope (compEnvC scope cl C X.env) fp) tg (gT S.K t))
    (ht : ∀ (s : Shared) (H : Hp) (C : Addr) (cl : List (Str × Addr)) (fp : List Addr), PTs (X.blk s H scope (compEnvC scope cl C X.env) fp) [] (tTs S.calm []))
    (he : ∀ (s : Shared) (H : Hp) (C : Addr) (cl : List (Str × Addr)) (fp : List Addr), PE (X.blk s H scope (compEnvC scope cl C X.env) fp) pelt (tN S.calm elt)) :
    PN X i x px (.ListComp pelt [⟨tg, iter, [], 0⟩] scope lpos) pos (tW S (.compL elt t it own)) := by
  cases e : (X.env.blockKind == .function && X.env.kindOf x == some .local && px.line == lpos.line && !(scope.names.any fun (n, k) => n == x && (k == .local || k == .cell))) with
  | false => exact ps_set hN hi hx (e_compL hc hN ok ho hown hset hit hg ht he) (by rw [sw_lc, e]) hf
  | true =>
    subst ho
    have hl : X.env.scope.names.lookup x = some .local := by
      simp only [Bool.and_eq_true] at e
      have e2 := e.1.1.2
      exact eq_of_beq e2
    exact (ps_setLc hc hN hi hl (by rw [sw_lc, e]) hit ok hg ht he (folded_of hset)).mono fun D σ H q => comp_readL hown q
/-- a slot's list of lists, by the slot -/
theorem lw_slot {K : PySem.W.Frag} {g : Gh} {H0 H : Hp} {env : Ev} {σ : Sl} {ow : Nat → List Addr} (r : EnvR K g H0 H env σ ow) {i : Nat} {ws : List W} (e : env[i]? = some (.lw ws)) : ∃ p vs os, σ[i]? = some (some (.ref p)) ∧ H p = some (.lst vs) ∧ RWs K g H ws vs os ∧ ow i = p :: os := by
  rcases r.sl i _ e with z | ⟨v, e1, z⟩
  · cases z.1
  · obtain ⟨p, vs, os, rfl, h1, h2, h3⟩ := z
    exact ⟨p, vs, os, e1, h1, h2, h3⟩
theorem RWs.length {K : PySem.W.Frag} {g : Gh} {H : Hp} : ∀ {ws : List W} {vs : List V} {os : List Addr}, RWs K g H ws vs os → ws.length = vs.length
  | [], _, _, h => by obtain ⟨rfl, _⟩ := h; rfl
  | w :: ws, _, _, h => by
    obtain ⟨v, vs', o1, o2, rfl, h1, h2, rfl⟩ := h
    simp [h2.length]
theorem atI_of {vs : List V} {n : Int} {p : Nat} {v : V} (h : ixN vs.length n = some p) (e : vs[p]? = some v) : atI vs n = some v := by
  rw [atI, h]; exact e
theorem s_setII {i : Nat} {x : Str} {px ps ps2 : Pos} (hK : X.K = S.K) (hN : X.N[i]? = some x) (hv : Vis X.env.scope x) (hd : (x == ("__debug__" : Str)) = false) (hcd : (x == ("__classdict__" : Str)) = false) (hp : plainSub pb = true) (hp2 : plainSub pc = true)
    (he : PE X pa (tF S a)) (hk : PE X pb (tF S b)) (hl : PE X pc (tF S c)) : PS X (.Assign [.Subscript (.Subscript (.Name x px) pb ps2) pc ps] pa pos) (tS S (.setII i b c a)) := by
  refine (ps_asg he (pg_item hp2 (pe_ix ix_list (pe_var hN hv hd hcd) hk (plainIx_of hp)) hl set_list) sw_sub sw_sub2 rfl).mono fun D σ H ⟨g, st, env, at_, h⟩ => ?_
  refine tE_imp (lemS1 (rel1 := rF S.K) at_ h) fun v H1 ⟨g1, st1, d1, a1, r1, h1⟩ => ?_
  split at h1
  · rename_i ws e
    obtain ⟨_, _, ow, er⟩ := id a1
    obtain ⟨p, vs, os, e1, e2, e3, e4⟩ := lw_slot er e
    refine ⟨_, e1, tE_imp (lemS2 (rel1 := rF S.K) a1 h1) fun y H2 ⟨g2, st2, d2, ss, a2, r2, h2⟩ => ?_⟩
    cases d2 <;> try exact h2.elim
    rename_i n
    cases r2
    obtain ⟨s2, w2, ow2, er2⟩ := id a2
    obtain ⟨p', vs2, os2, e1', e2', e3', e4'⟩ := lw_slot er2 e
    rw [e1] at e1'; cases e1'
    cases ep : place ws.length n with
    | none => simp only [ep] at h2; exact h2.elim
    | some q =>
      simp only [ep] at h2
      split at h2
      · rename_i ds eq
        have nd2 := er2.nd i
        rw [e4', List.nodup_cons] at nd2
        obtain ⟨bb, us, q1, q2, q3, q4, q5⟩ := RWs.setAt e3' nd2.2 eq
        have hix : ixN vs2.length n = some q := by rw [← place_ix, ← e3'.length]; exact ep
        refine ⟨p, vs2, n, .ref bb, rfl, rfl, .inl (.inl e2'), atI_of hix q1, ?_⟩
        refine tE_imp (lemS2 (rel1 := rF S.K) a2 h2) fun z H3 ⟨g3, st3, d3, ss3, a3, r3, h3⟩ => ?_
        cases d3 <;> try exact h3.elim
        rename_i m
        cases r3
        obtain ⟨s3, w3, ow3, er3⟩ := id a3
        obtain ⟨p', vs3, os3, f1, f2, f3, f4⟩ := lw_slot er3 e
        rw [e1] at f1; cases f1
        have hpk : p ∉ g2.ks := (er2.own i p (by rw [e4']; simp)).2.1
        have f2' := ss3.kp p _ e2' hpk
        rw [f2] at f2'; cases f2'
        have nd3 := er3.nd i
        rw [f4, List.nodup_cons] at nd3
        obtain ⟨b3, us3, t1, t2, t3, t4, t5⟩ := RWs.setAt f3 nd3.2 eq
        rw [q1] at t1; cases t1
        cases ej : place ds.length m with
        | none => simp only [ej] at h3; exact h3.elim
        | some j =>
          simp only [ej] at h3
          refine ⟨bb, us3, m, j, rfl, rfl, t2, by rw [← place_ix, ← t3.length]; exact ej, ?_⟩
          have hbo : bb ∈ ow3 i := by rw [f4]; simp [t4]
          have nF := (er3.own i bb hbo).1
          have hst : Stp g3 H3 g3 (upd H3 bb (.lst (us3.set j v))) := Stp.upd nF t2
          have hne : p ≠ bb := fun z => nd3.1 (by rw [z]; exact t4)
          obtain ⟨u1, u2⟩ := At.updOwn (o := .lst (us3.set j v)) s3 w3 er3 (lt_of_get e) hbo t2 e1 (w' := .lw (ws.set q (.own (ds.set j d1))))
            ⟨p, _, os3, rfl, by rw [upd_ne hne]; exact f2, t5 _ _ nF (RVs.set (RV.stp hst (RV.stp (ss3.stp a2.2.1) (RV.stp (ss.stp a1.2.1) r1))) j (t3.stp hst)), f4⟩
          exact h3 g3 _ σ u2 u1
      · exact h2.elim
  · exact h1.elim
/-! ### calls without arguments -/
theorem w_call0 {k f : Nat} {x : Str} {p : Pos} (F : FnAt X S k f x) (hr : Room k X.A) (tk : L2N.Takes X S.W) (hg : Gl X x) (hdb : (x == ("__debug__" : Str)) = false) : PE X (.Call (.Name x p) [] [] pos) (tW S (.call f [])) := by
  obtain ⟨fa, fd, ps, F, hm, hk, hb⟩ := F.ex
  refine ⟨fun pins s σ H Q I h => ?_⟩
  refine wpAny_Call_Name_kw (ld_glob I hg hm ?_ hdb)
  refine PySem.W.callWith_K0 I.kIn hk (run_fnS (us := []) (E := WE S.W) F hr hb (L2N.passAt tk σ) I .nil ?_)
  obtain ⟨g, st, env, at_, h⟩ := h
  refine ⟨g, st, [], at_.2.1, rfl, ?_⟩
  simp only [evW, evEs, R.bind_ok] at h
  cases e : S.cl f [] st with
  | ok w st2 => rw [e] at h; exact fun g' H' v s w r => h g' H' v s w r
  | exc c st2 => rw [e] at h; exact fun g' H' s w => h g' H' s w
  | bad => rw [e] at h; exact h
theorem e_call0 {k f : Nat} {x : Str} {p : Pos} (F : FnAt X S k f x) (hr : Room k X.A) (tk : L2N.Takes X S.W) (hg : Gl X x) (hdb : (x == ("__debug__" : Str)) = false) : PE X (.Call (.Name x p) [] [] pos) (tF S (.call f [])) := (w_call0 F hr tk hg hdb).mono fun _ _ _ => tW_F
end
end DDS

set_option Elab.async false
set_option linter.all false
set_option maxRecDepth 100000
set_option maxHeartbeats 2000000
namespace DDS
open PySem PySem.Spec PyProof.Rows L2 DD
/-! ### what a tuple or a list holds as its own: lent, picked, grown -/
section
variable {X : Cx} {S : Sg} {pos : Pos} {pa pb pc : Expr} {a b c : E}
theorem e_lend {k f i : Nat} {x y : Str} {p p1 : Pos} (F : FnAt X S k f x) (hr : Room k X.A) (tk : L2N.Takes X S.W) (hg : Gl X x) (hdb : (x == ("__debug__" : Str)) = false)
    (hN : X.N[i]? = some y) (hv : Vis X.env.scope y) (hd : (y == ("__debug__" : Str)) = false) (hcd : (y == ("__classdict__" : Str)) = false) (hs : notStar pb = true) (hb : PE X pb (tF S b)) : PE X (.Call (.Name x p) [.Name y p1, pb] [] pos) (tF S (.lend f i b)) := by
  obtain ⟨fa, fd, ps, F, hm, hk, hbd⟩ := F.ex
  refine (pe_callS (E := WE S.W) F hr hg hm hk hbd (fun σ => L2N.passAt tk σ) (PA2 rfl hs (pe_var hN hv hd hcd) hb) hdb (star_cons rfl) (star_all (by simp [hs]))).mono fun σ H Q ⟨g, st, env, at_, h⟩ => ?_
  obtain ⟨s0, w0, ow, er⟩ := id at_
  rcases e : env[i]? with _ | w
  · simp only [evE, e] at h; exact h.elim
  · rcases er.sl i _ e with z | ⟨v, e1, z⟩
    · rw [z.1] at e
      simp only [evE, e] at h; exact h.elim
    · refine ⟨v, e1, ?_⟩
      have h' : Post S σ g H ((evE S.cl b env st).bind fun y st => (S.cl f [w.d, y] st).bind fun v st => if flatD v.d then R.ok v.d st else .bad) (rF S.K) Q := by
        simp only [evE, e] at h
        cases w <;> first | exact h | exact h.elim
      refine ⟨g, st, env, at_, (Post.bind (rel1 := rF S.K) up_F h').mono fun g' H' d u st' s w' r q => ?_⟩
      obtain ⟨g1, st1, d1, s1, w1, r1, h1⟩ := q g' H' u s w' r
      have er1 := er.step w0 s1
      have z1 : RW S.K g1 H' w v (ow i) := by
        rcases er1.sl i _ e with z2 | ⟨v2, e2, z2⟩
        · rw [z2.1] at z; exact z.elim
        · rw [e1] at e2; cases e2; exact z2
      refine ⟨g1.more (ow i), st1, [w.d, d1], w1.more (fun a ha => er1.live ha) fun a ha => (er1.own i a ha).2.1, ⟨v, _, rfl, RW.frz (fun _ q => q) z1, u, [], rfl, RV.stp Stp.more r1, rfl⟩, ?_⟩
      cases ec : S.cl f [w.d, d1] st1 with
      | ok wv st2 =>
        rw [ec] at h1
        intro g' H' v s w ⟨os, r, _⟩
        obtain ⟨s', w'⟩ := lent_back s w
        by_cases hf : flatD wv.d = true
        · rw [R.bind_ok, if_pos hf] at h1
          exact h1 _ H' v s' w' (RW.flat r hf _)
        · rw [R.bind_ok, if_neg hf] at h1
          exact h1.elim
      | exc c st2 =>
        rw [ec] at h1
        intro g' H' s w
        obtain ⟨s', w'⟩ := lent_back s w
        exact h1 _ H' s' w'
      | bad => rw [ec] at h1; exact h1
/-- what a list or a tuple has at a place -/
def rEl (K : PySem.W.Frag) : R2 := fun x y H Q => ∃ a vs i v', x = .ref a ∧ y = .int i ∧ (SqL K H a vs ∨ SqT K H a vs) ∧ L2.atI vs i = some v' ∧ Q v' H
theorem ix_el : IxR X (rEl X.K) := by
  intro value slice pins s σ H x y v u Q I rx ry h hs
  obtain ⟨a, vs, i, v', rfl, rfl, ha | ha, e, q⟩ := h
  · exact ix_list value slice pins s σ H _ _ v u Q I rx ry ⟨a, vs, i, v', rfl, rfl, ha, e, q⟩ hs
  · exact ix_tup value slice pins s σ H _ _ v u Q I rx ry ⟨a, vs, i, v', rfl, rfl, ha, e, q⟩ hs
theorem RWs.getAt {K : PySem.W.Frag} {g : Gh} {H : Hp} : ∀ {ws : List W} {vs : List V} {os : List Addr} {p : Nat} {w : W}, RWs K g H ws vs os → ws[p]? = some w → ∃ v os', vs[p]? = some v ∧ RW K g H w v os' ∧ os'.Sublist os
  | [], _, _, _, _, _, e => by simp at e
  | w :: ws, _, _, 0, _, h, e => by
    obtain ⟨v, vs', o1, o2, rfl, h1, h2, rfl⟩ := h
    simp at e; subst e
    exact ⟨v, o1, rfl, h1, List.sublist_append_left _ _⟩
  | w :: ws, _, _, p + 1, _, h, e => by
    obtain ⟨v, vs', o1, o2, rfl, h1, h2, rfl⟩ := h
    obtain ⟨v', os', q1, q2, q3⟩ := RWs.getAt (p := p) h2 (by simpa using e)
    exact ⟨v', os', by simpa using q1, q2, q3.trans (List.sublist_append_right _ _)⟩
theorem w_pick {k f n : Nat} {x : Str} {p p2 p3 : Pos} {j : Nat} {pes : List Expr} {es : List E} (hK : X.K = S.K) (F : FnAt X S k f x) (hr : Room k X.A) (tk : L2N.Takes X S.W) (hg : Gl X x) (hdb : (x == ("__debug__" : Str)) = false) (hs : (pa :: pes).all notStar = true)
    (ha : PA X (pa :: pes) (tEs S (rFs S.K) es)) : PE X (.Subscript (.Call (.Name x p) (pa :: pes) [] p2) (.Constant (.int (n : Int)) j p3) pos) (tW S (.pick n f es)) := by
  refine (pe_ix ix_el (w_call F hr tk hg hdb hs ha) pe_int (plainIx_of rfl)).mono fun σ H Q ⟨g, st, env, at_, h⟩ => ?_
  rw [hK]
  have h' : Post S σ g H ((evW S.cl (.call f es) env st).bind fun w st => match w with
    | .tw ws => match ws[n]? with
      | some v => R.ok v st
      | none => .bad
    | _ => .bad) (rW S.K) Q := by
    simp only [evW] at h ⊢
    rw [bind_assoc]; exact h
  refine ⟨g, st, env, at_, (Post.bind0 (rel1 := rW S.K) (Step.refl _ _) h').mono fun g' H' d v st' s w r q => ?_⟩
  obtain ⟨g1, st1, w1, s1, wf1, ⟨os, r1, nd, ow⟩, h1⟩ := q g' H' v s w r
  cases w1 with
  | tw ws =>
    obtain ⟨a, vs, rfl, ⟨oo, _, ea⟩, rs⟩ := r1
    cases ew : ws[n]? with
    | none => simp only [ew] at h1; exact h1.elim
    | some w' =>
      simp only [ew] at h1
      obtain ⟨v', os', q1, q2, q3⟩ := RWs.getAt rs ew
      have hlt : n < vs.length := (List.getElem?_eq_some_iff.mp q1).1
      refine ⟨a, vs, n, v', rfl, rfl, .inr (.inl (.inr ⟨oo, ea⟩)), ?_, h1 g1 H' v' s1 wf1 ⟨os', q2, nd.sublist q3, fun b hb => ow b (q3.subset hb)⟩⟩
      refine atI_of (p := n) ?_ q1
      rw [← place_ix]
      unfold place
      rw [if_pos (by omega), if_pos (by omega)]; simp
  | _ => exact h1.elim
theorem w_pr {k : Nat} (hs : notStar pa = true) (hs2 : notStar pb = true) (ha : PE X pa (tF S a)) (hb : PE X pb (tN S b)) : PE X (.Tuple [pa, pb] k pos) (tW S (.pr a b)) := by
  refine (pe_tupN (PA2 hs hs2 ha hb)).mono fun σ H Q ⟨g, st, env, at_, h⟩ => ?_
  refine ⟨g, st, env, at_, (Post.bind0 (rel1 := rF S.K) (Step.refl _ _) h).mono fun g' H1 d v st' s w r q => ?_⟩
  obtain ⟨g1, st1, d1, s1, w1, r1, h1⟩ := q g' H1 v s w r
  refine ⟨g1, st1, env, at_.step s1 w1, (Post.bind0 (rel1 := rN S.K) s1 h1).mono fun g' H2 d u st' s w r q => ?_⟩
  obtain ⟨g2, st2, d2, s2, w2, r2, h2⟩ := q g' H2 u s w r
  cases d2 with
  | lst ds =>
    obtain ⟨e, vs, rfl, e2, rv, nF, nk, hn⟩ := r2
    refine ⟨by show 2 ≤ sizeLine; decide, fun p oo ho hp => ?_⟩
    have s12 := s1.trans s2
    have hpe : p ≠ e := fun z => by subst z; rw [hp] at e2; cases e2
    exact h2 g2 _ (.ref p) (s12.trans (Step.alloc hp)) (w2.alloc hp) ⟨[e], ⟨p, [v, .ref e], rfl, ⟨oo, ho, upd_same⟩, v, [.ref e], [], [e], rfl, ⟨RV.stp (Stp.alloc hp) (RV.stp (s2.stp w1) r1), rfl⟩, ⟨.ref e, [], [e], [], rfl, ⟨e, vs, rfl, by rw [upd_ne (Ne.symm hpe)]; exact e2, rv.stp (Stp.alloc hp), rfl⟩, ⟨rfl, rfl⟩, rfl⟩, rfl⟩, by simp, fun b hb => by
      rw [List.mem_singleton] at hb; subst hb; exact ⟨nF, nk, s1.live hn⟩⟩
  | _ => exact h2.elim
theorem s_ret2 {i j k : Nat} {x y : Str} {p1 p2 p3 : Pos} (hij : i ≠ j) (hN : X.N[i]? = some x) (hv : Vis X.env.scope x) (hd : (x == ("__debug__" : Str)) = false) (hcd : (x == ("__classdict__" : Str)) = false)
    (hN2 : X.N[j]? = some y) (hv2 : Vis X.env.scope y) (hd2 : (y == ("__debug__" : Str)) = false) (hcd2 : (y == ("__classdict__" : Str)) = false) : PS X (.Return (some (.Tuple [.Name x p1, .Name y p2] k p3)) pos) (tS S (.ret2 i j)) := by
  refine (ps_ret (pe_tupN (PA2 rfl rfl (pe_var hN hv hd hcd) (pe_var hN2 hv2 hd2 hcd2)))).mono fun D σ H ⟨g, st, env, at_, h⟩ => ?_
  obtain ⟨s, w, ow, er⟩ := at_
  simp only [evS] at h
  split at h
  · rename_i ds es e1 e2
    obtain ⟨p, vs, f1, f2, f3, f4⟩ := own_slot er e1
    obtain ⟨q, us, g1, g2, g3, g4⟩ := own_slot er e2
    refine ⟨_, f1, _, g1, by show 2 ≤ sizeLine; decide, fun t oo ho ht => ?_⟩
    have hpq : p ≠ q := fun z => hij (er.dj i j p (by rw [f4]; simp) (by rw [g4, z]; simp))
    have htp : p ≠ t := fun z => by subst z; rw [ht] at f2; cases f2
    have htq : q ≠ t := fun z => by subst z; rw [ht] at g2; cases g2
    refine h g _ _ (s.trans (Step.alloc ht)) (w.alloc ht) ⟨[p, q], ⟨t, [.ref p, .ref q], rfl, ⟨oo, ho, upd_same⟩, .ref p, [.ref q], [p], [q], rfl, ⟨p, vs, rfl, by rw [upd_ne htp]; exact f2, f3.stp (Stp.alloc ht), rfl⟩, ⟨.ref q, [], [q], [], rfl, ⟨q, us, rfl, by rw [upd_ne htq]; exact g2, g3.stp (Stp.alloc ht), rfl⟩, ⟨rfl, rfl⟩, rfl⟩, rfl⟩, by simp [hpq], fun b hb => ?_⟩
    rcases List.mem_cons.mp hb with rfl | hb
    · exact er.own i b (by rw [f4]; simp)
    · rw [List.mem_singleton] at hb; subst hb
      exact er.own j b (by rw [g4]; simp)
  · exact h.elim
theorem tw_slot {K : PySem.W.Frag} {g : Gh} {H0 H : Hp} {env : Ev} {σ : Sl} {ow : Nat → List Addr} (r : EnvR K g H0 H env σ ow) {i : Nat} {ws : List W} (e : env[i]? = some (.tw ws)) : ∃ p vs, σ[i]? = some (some (.ref p)) ∧ (∃ o : Obj, o.dict = none ∧ H p = some (.frz o (.tup vs))) ∧ RWs K g H ws vs (ow i) := by
  rcases r.sl i _ e with z | ⟨v, e1, z⟩
  · cases z.1
  · obtain ⟨p, vs, rfl, h1, h2⟩ := z
    exact ⟨p, vs, e1, h1, h2⟩
theorem s_appI {i : Nat} {x : Str} {px ps apos cpos : Pos} (hK : X.K = S.K) (hN : X.N[i]? = some x) (hv : Vis X.env.scope x) (hd : (x == ("__debug__" : Str)) = false) (hcd : (x == ("__classdict__" : Str)) = false) (hp : plainSub pb = true) (hs : notStar pa = true) (hline : (apos.endLine == cpos.line) = true)
    (he : PE X pa (tF S a)) (hk : PE X pb (tF S b)) : PS X (.Expr (.Call (.Attribute (.Subscript (.Name x px) pb ps) "append" apos) [pa] [] cpos) pos) (tS S (.appI i b a)) := by
  refine (ps_expr (pe_bm PySem.F.plainAttrs_list PySem.F.slot_list_append PySem.F.type_list_append mt_append (pe_ix ix_el (pe_var hN hv hd hcd) hk (plainIx_of hp)) (PA1 hs he) rfl (few1 hs) hline (star_cons hs) rfl) rfl).mono fun D σ H ⟨g, st, env, at_, h⟩ => ?_
  simp only [evS] at h
  split at h
  · rename_i ws e
    obtain ⟨_, _, ow, er⟩ := id at_
    obtain ⟨p, vs, os, e1, e2, e3, e4⟩ := lw_slot er e
    refine ⟨_, e1, tE_imp (lemS2 (rel1 := rF S.K) at_ h) fun y H2 ⟨g2, st2, d2, ss, a2, r2, h2⟩ => ?_⟩
    cases d2 <;> try exact h2.elim
    rename_i n
    cases r2
    obtain ⟨s2, w2, ow2, er2⟩ := id a2
    obtain ⟨p', vs2, os2, e1', e2', e3', e4'⟩ := lw_slot er2 e
    rw [e1] at e1'; cases e1'
    cases ep : place ws.length n with
    | none => simp only [ep] at h2; exact h2.elim
    | some q =>
      simp only [ep] at h2
      split at h2
      · rename_i ds eq
        have nd2 := er2.nd i
        rw [e4', List.nodup_cons] at nd2
        obtain ⟨bb, us, q1, q2, q3, q4, q5⟩ := RWs.setAt e3' nd2.2 eq
        have hix : ixN vs2.length n = some q := by rw [← place_ix, ← e3'.length]; exact ep
        refine ⟨p, vs2, n, .ref bb, rfl, rfl, .inl (.inl (.inl e2')), atI_of hix q1, .inl ⟨rfl, us, .inl (.inl q2)⟩, ?_⟩
        refine tE_imp (lemS2 (rel1 := rF S.K) a2 h2) fun z H3 ⟨g3, st3, d3, ss3, a3, r3, h3⟩ => ?_
        obtain ⟨s3, w3, ow3, er3⟩ := id a3
        obtain ⟨p', vs3, os3, f1, f2, f3, f4⟩ := lw_slot er3 e
        rw [e1] at f1; cases f1
        have hpk : p ∉ g2.ks := (er2.own i p (by rw [e4']; simp)).2.1
        have f2' := ss3.kp p _ e2' hpk
        rw [f2] at f2'; cases f2'
        have nd3 := er3.nd i
        rw [f4, List.nodup_cons] at nd3
        obtain ⟨b3, us3, t1, t2, t3, t4, t5⟩ := RWs.setAt f3 nd3.2 eq
        rw [q1] at t1; cases t1
        by_cases hz : ds.length < lim
        · rw [if_pos hz] at h3
          refine ⟨bb, us3, z, rfl, rfl, t2, by rw [← t3.length]; exact Nat.lt_of_lt_of_le hz lim_le, ?_⟩
          have hbo : bb ∈ ow3 i := by rw [f4]; simp [t4]
          have nF := (er3.own i bb hbo).1
          have hst : Stp g3 H3 g3 (upd H3 bb (.lst (us3 ++ [z]))) := Stp.upd nF t2
          have hne : p ≠ bb := fun z => nd3.1 (by rw [z]; exact t4)
          obtain ⟨u1, u2⟩ := At.updOwn (o := .lst (us3 ++ [z])) s3 w3 er3 (lt_of_get e) hbo t2 e1 (w' := .lw (ws.set q (.own (ds ++ [d3]))))
            ⟨p, _, os3, rfl, by rw [upd_ne hne]; exact f2, t5 _ _ nF ((t3.stp hst).append ⟨z, [], rfl, RV.stp hst r3, rfl⟩), f4⟩
          exact h3 g3 _ σ u2 u1
        · rw [if_neg hz] at h3; exact h3.elim
      · exact h2.elim
  · rename_i ws e
    obtain ⟨_, _, ow, er⟩ := id at_
    obtain ⟨p, vs, e1, e2, e3⟩ := tw_slot er e
    refine ⟨_, e1, tE_imp (lemS2 (rel1 := rF S.K) at_ h) fun y H2 ⟨g2, st2, d2, ss, a2, r2, h2⟩ => ?_⟩
    cases d2 <;> try exact h2.elim
    rename_i n
    cases r2
    obtain ⟨s2, w2, ow2, er2⟩ := id a2
    obtain ⟨p', vs2, e1', ⟨oo, ho, e2'⟩, e3'⟩ := tw_slot er2 e
    rw [e1] at e1'; cases e1'
    cases ep : place ws.length n with
    | none => simp only [ep] at h2; exact h2.elim
    | some q =>
      simp only [ep] at h2
      split at h2
      · rename_i ds eq
        obtain ⟨bb, us, q1, q2, q3, q4, q5⟩ := RWs.setAt e3' (er2.nd i) eq
        have hix : ixN vs2.length n = some q := by rw [← place_ix, ← e3'.length]; exact ep
        refine ⟨p, vs2, n, .ref bb, rfl, rfl, .inr (.inl (.inr ⟨oo, e2'⟩)), atI_of hix q1, .inl ⟨rfl, us, .inl (.inl q2)⟩, ?_⟩
        refine tE_imp (lemS2 (rel1 := rF S.K) a2 h2) fun z H3 ⟨g3, st3, d3, ss3, a3, r3, h3⟩ => ?_
        obtain ⟨s3, w3, ow3, er3⟩ := id a3
        obtain ⟨p', vs3, f1, ⟨o3, ho3, f2⟩, f3⟩ := tw_slot er3 e
        rw [e1] at f1; cases f1
        have f2' := (ss3.stp a2.2.1).tp p _ e2' trivial
        rw [f2] at f2'; cases f2'
        obtain ⟨b3, us3, t1, t2, t3, t4, t5⟩ := RWs.setAt f3 (er3.nd i) eq
        rw [q1] at t1; cases t1
        by_cases hz : ds.length < lim
        · rw [if_pos hz] at h3
          refine ⟨bb, us3, z, rfl, rfl, t2, by rw [← t3.length]; exact Nat.lt_of_lt_of_le hz lim_le, ?_⟩
          have nF := (er3.own i bb t4).1
          have hst : Stp g3 H3 g3 (upd H3 bb (.lst (us3 ++ [z]))) := Stp.upd nF t2
          have hne : p ≠ bb := fun z => by subst z; rw [f2] at t2; cases t2
          obtain ⟨u1, u2⟩ := At.updOwn (o := .lst (us3 ++ [z])) s3 w3 er3 (lt_of_get e) t4 t2 e1 (w' := .tw (ws.set q (.own (ds ++ [d3]))))
            ⟨p, _, rfl, ⟨_, ho3, by rw [upd_ne hne]; exact f2⟩, t5 _ _ nF ((t3.stp hst).append ⟨z, [], rfl, RV.stp hst r3, rfl⟩)⟩
          exact h3 g3 _ σ u2 u1
        · rw [if_neg hz] at h3; exact h3.elim
      · exact h2.elim
  · exact h.elim
end
/-! ### a comprehension of a call's values -/
section
variable {X : Cx} {S : Sg} {pos : Pos} {t : T} {it : I} {own : List Nat} {f : Nat} {es : List E}
def RAw (K : PySem.W.Frag) (D : Addr) (Hb : Hp) (g : Gh) (H : Hp) (acc : List W) (av : List V) : Prop := ∃ os, RWs K g H acc av os ∧ os.Nodup ∧ ∀ a ∈ os, ¬ g.F a ∧ a ∉ g.ks ∧ Hb a = none ∧ a ≠ D
theorem comp_readW {Q : VK} {σ : Sl} {H : Hp} (hown : ∀ j ∈ T.sl t, j ∈ own) (h : tW S (.compW f es t it own) σ H Q) : tLc (wI S false it) (gT S.K t) (tTs S.calm []) (tW S.calm (.call f es)) own σ H Q := by
  obtain ⟨g, st, env, at_, h⟩ := h
  refine ⟨g, st, env, at_, (Post.bind (rel1 := rI false S.K) up_W h).mono fun g' H' d v st' s w r k => ?_⟩
  obtain ⟨g1, st1, xs, s1, w1, r1, h1⟩ := k g' H' v s w r
  have ec : (fun (_ : Ev) (st : Store) => R.ok true st) = fun env st => evC S.cl [] env st := by
    funext env st; simp only [evC]
  rw [ec] at h1
  cases e : compGo t (fun env st => evC S.cl [] env st) (fun env st => (evEs S.cl es env st).bind fun ds st => S.cl f ds st) xs (DD.wipe env own) st1 with
  | exc c s => exact (compGo_noexc e).elim
  | bad => rw [e] at h1; exact h1.elim
  | ok ws stf =>
    rw [e] at h1
    simp only [R.bind_ok] at h1
    by_cases hz : ws.length ≤ lim
    · rw [if_pos hz] at h1
      refine comp_core (Fe := fun env st => (evEs S.cl es env st).bind fun ds st => S.cl f ds st) (tEl := tW S.calm (.call f es)) (fun _ _ _ ⟨g, st, env, a, h⟩ => ⟨g, st, env, a, by simp only [evW]; exact h⟩) (cond := []) (relE := rW S.K) (RA := RAw S.K) hown (fun _ _ _ _ => ⟨[], ⟨rfl, rfl⟩, List.nodup_nil, by simp⟩) (fun D Hb g H g' H' st acc av ra wf s => ?_) (fun D Hb g H acc av vs o ra nF eD => ?_)
        (fun D Hb Hs gs g H acc av vs d y st ra wf s hl eD ry => ?_) (at_.step s1 w1) r1 e hz fun g2 H2 D av s2 w2 eD nF nk hD ra => ?_
      · obtain ⟨os, q1, q2, q3⟩ := ra
        refine ⟨os, RWs.stp (s.stp wf) (fun a ha o eo => s.kp a o eo (q3 a ha).2.1) q1, q2, fun a ha => ?_⟩
        obtain ⟨o, eo⟩ := q1.live ha
        refine ⟨fun z => ?_, fun z => ?_, (q3 a ha).2.2⟩
        · rcases s.nF a z with q | q
          · exact (q3 a ha).1 q
          · rw [eo] at q; cases q
        · rcases s.nk a z with q | q
          · exact (q3 a ha).2.1 q
          · rw [eo] at q; cases q
      · obtain ⟨os, q1, q2, q3⟩ := ra
        exact ⟨os, RWs.stp (Stp.upd nF eD) (fun a ha o eo => by rw [upd_ne (q3 a ha).2.2.2]; exact eo) q1, q2, q3⟩
      · obtain ⟨os, q1, q2, q3⟩ := ra
        obtain ⟨ps, y1, y2, y3⟩ := ry
        refine ⟨os ++ ps, RWs.append (RWs.stp (s.stp wf) (fun a ha o eo => s.kp a o eo (q3 a ha).2.1) q1) ⟨y, [], ps, [], rfl, y1, ⟨rfl, rfl⟩, by simp⟩, ?_, fun a ha => ?_⟩
        · rw [List.nodup_append]
          refine ⟨q2, y2, fun a ha b hb z => ?_⟩
          subst z
          obtain ⟨o, eo⟩ := q1.live ha
          rw [(y3 a hb).2.2] at eo; cases eo
        · rcases List.mem_append.mp ha with ha | ha
          · obtain ⟨o, eo⟩ := q1.live ha
            refine ⟨fun z => ?_, fun z => ?_, (q3 a ha).2.2⟩
            · rcases s.nF a z with q | q
              · exact (q3 a ha).1 q
              · rw [eo] at q; cases q
            · rcases s.nk a z with q | q
              · exact (q3 a ha).2.1 q
              · rw [eo] at q; cases q
          · exact ⟨(y3 a ha).1, (y3 a ha).2.1, hl _ (y3 a ha).2.2, fun z => by subst z; have z2 := (y3 _ ha).2.2; rw [eD] at z2; cases z2⟩
      · obtain ⟨os, q1, q2, q3⟩ := ra
        refine h1 g2 H2 _ s2 w2 ⟨D :: os, ⟨D, av, os, rfl, eD, q1, rfl⟩, ?_, fun a ha => ?_⟩
        · rw [List.nodup_cons]
          exact ⟨fun z => (q3 D z).2.2.2 rfl, q2⟩
        · rcases List.mem_cons.mp ha with rfl | ha
          · exact ⟨nF, nk, hD⟩
          · exact ⟨(q3 a ha).1, (q3 a ha).2.1, (q3 a ha).2.2.1⟩
    · rw [if_neg hz] at h1; exact h1.elim
theorem e_compW {pelt tg iter : Expr} {scope : Scope} {ownN : List (Str × Nat)} (hc : X.calm = true) (hN : X.N.Nodup) (ok : BlkOk X.N X.env.scope scope ownN) (ho : own = ownN.map (·.2)) (hown : ∀ j ∈ T.sl t, j ∈ own) (hset : notSet iter = true)
    (hit : PI X tg iter (wI S false it)) (hg : ∀ (s : Shared) (H : Hp) (C : Addr) (cl : List (Str × Addr)) (fp : List Addr), PG (X.blk s H scope (compEnvC scope cl C X.env) fp) tg (gT S.K t))
    (ht : ∀ (s : Shared) (H : Hp) (C : Addr) (cl : List (Str × Addr)) (fp : List Addr), PTs (X.blk s H scope (compEnvC scope cl C X.env) fp) [] (tTs S.calm []))
    (he : ∀ (s : Shared) (H : Hp) (C : Addr) (cl : List (Str × Addr)) (fp : List Addr), PE (X.blk s H scope (compEnvC scope cl C X.env) fp) pelt (tW S.calm (.call f es))) :
    PE X (.ListComp pelt [⟨tg, iter, [], 0⟩] scope pos) (tW S (.compW f es t it own)) := by
  subst ho
  exact (pe_lc hc hN hit ok hg ht he (folded_of hset)).mono fun σ H Q h => comp_readW hown h
theorem PN.lcW {i : Nat} {x : Str} {px : Pos} {pelt tg iter : Expr} {scope : Scope} {ownN : List (Str × Nat)} {lpos : Pos} (hi : X.N[i]? = some x) (hx : Loc X.env.scope x) (hf : X.fn x = true ∨ X.env.scope.names.lookup x = some .local)
    (hc : X.calm = true) (hN : X.N.Nodup) (ok : BlkOk X.N X.env.scope scope ownN) (ho : own = ownN.map (·.2)) (hown : ∀ j ∈ T.sl t, j ∈ own) (hset : notSet iter = true)
    (hit : PI X tg iter (wI S false it)) (hg : ∀ (s : Shared) (H : Hp) (C : Addr) (cl : List (Str × Addr)) (fp : List Addr), PG (X.blk s H scope (compEnvC scope cl C X.env) fp) tg (gT S.K t))
    (ht : ∀ (s : Shared) (H : Hp) (C : Addr) (cl : List (Str × Addr)) (fp : List Addr), PTs (X.blk s H scope (compEnvC scope cl C X.env) fp) [] (tTs S.calm []))
    (he : ∀ (s : Shared) (H : Hp) (C : Addr) (cl : List (Str × Addr)) (fp : List Addr), PE (X.blk s H scope (compEnvC scope cl C X.env) fp) pelt (tW S.calm (.call f es))) :
    PN X i x px (.ListComp pelt [⟨tg, iter, [], 0⟩] scope lpos) pos (tW S (.compW f es t it own)) := by
  cases e : (X.env.blockKind == .function && X.env.kindOf x == some .local && px.line == lpos.line && !(scope.names.any fun (n, k) => n == x && (k == .local || k == .cell))) with
  | false =>
    subst ho
    exact ps_set hN hi hx ((pe_lc hc hN hit ok hg ht he (folded_of hset)).mono fun σ H Q h => comp_readW hown h) (by rw [sw_lc, e]) hf
  | true =>
    subst ho
    have hl : X.env.scope.names.lookup x = some .local := by
      simp only [Bool.and_eq_true] at e
      have e2 := e.1.1.2
      exact eq_of_beq e2
    exact (ps_setLc hc hN hi hl (by rw [sw_lc, e]) hit ok hg ht he (folded_of hset)).mono fun D σ H q => comp_readW hown q
end
end DDS

set_option Elab.async false
set_option linter.all false
set_option maxRecDepth 100000
set_option maxHeartbeats 2000000
namespace DDS
open PySem PySem.Spec PyProof.Rows L2 DD
/-! a list of new lists, written out; what is never come to -/
theorem ownsOf_len : ∀ {ds : List D} {ws : List W}, DD.ownsOf ds = some ws → ds.length = ws.length
  | [], ws, h => by cases h; rfl
  | d :: ds, ws, h => by
    cases d <;> simp [DD.ownsOf] at h
    obtain ⟨w1, h1, rfl⟩ := h
    simp [ownsOf_len h1]
theorem RWs.len {K : PySem.W.Frag} {g : Gh} {H : Hp} : ∀ {ws : List W} {vs : List V} {os : List Addr}, RWs K g H ws vs os → ws.length = vs.length
  | [], vs, os, h => by rw [h.1]; rfl
  | w :: ws, vs, os, h => by
    obtain ⟨v, vs', o1, o2, rfl, h1, h2, rfl⟩ := h
    simp [RWs.len h2]
def rOs (K : PySem.W.Frag) : Rl (List D) (List V) := fun H0 g H ds vs => ∀ ws, DD.ownsOf ds = some ws → ∃ os, RWs K g H ws vs os ∧ Own g H0 os
section
variable {X : Cx} {S : Sg} {pos : Pos} {pa : Expr} {a : E}
theorem es_consL {pes : List Expr} {es : List E} (hs : notStar pa = true) (ha : PE X pa (tN S a)) (hr : PA X pes (tEs S (rOs S.K) es)) : PA X (pa :: pes) (tEs S (rOs S.K) (a :: es)) := by
  refine (pa_cons ha hr (star_cons hs)).mono fun σ H Q ⟨g, st, env, at_, h⟩ => ?_
  simp only [evEs] at h
  refine ⟨g, st, env, at_, ?_⟩
  cases ea : evE S.cl a env st with
  | bad => rw [ea] at h; exact h.elim
  | exc c s => rw [ea] at h; exact h
  | ok d st1 =>
    rw [ea] at h
    intro g1 H1 x s1 w1 r1
    refine ⟨g1, st1, env, at_.step s1 w1, ?_⟩
    simp only [R.bind_ok] at h
    cases ee : evEs S.cl es env st1 with
    | bad => rw [ee] at h; exact h.elim
    | exc c s =>
      rw [ee] at h
      exact fun g2 H2 s2 w2 => h g2 H2 (s1.trans s2) w2
    | ok ds st2 =>
      rw [ee] at h
      intro g2 H2 xs s2 w2 r2
      refine h g2 H2 (x :: xs) (s1.trans s2) w2 fun ws hw => ?_
      cases d <;> simp [DD.ownsOf] at hw
      obtain ⟨ws', e1, rfl⟩ := hw
      obtain ⟨os, q1, q2, q3⟩ := r2 ws' e1
      obtain ⟨p, us, rfl, y1, y2, y3, y4, y5⟩ := r1
      have hno : p ∉ os := fun z => by
        have := (q3 p z).2.2
        rw [y1] at this; cases this
      refine ⟨p :: os, ⟨.ref p, xs, [p], os, rfl, ⟨p, us, rfl, s2.kp p _ y1 y4, y2.stp (s2.stp w1), rfl⟩, q1, rfl⟩, ?_, fun b hb => ?_⟩
      · rw [List.nodup_cons]; exact ⟨hno, q2⟩
      · rcases List.mem_cons.mp hb with rfl | hb
        · refine ⟨fun z => ?_, fun z => ?_, y5⟩
          · rcases s2.nF b z with q | q
            · exact y3 q
            · rw [y1] at q; cases q
          · rcases s2.nk b z with q | q
            · exact y4 q
            · rw [y1] at q; cases q
        · exact ⟨(q3 b hb).1, (q3 b hb).2.1, s1.live (q3 b hb).2.2⟩
theorem es_nilL : PA X [] (tEs S (rOs S.K) []) := es_nil fun H g H' ws hw => by cases hw; exact ⟨[], ⟨rfl, rfl⟩, List.nodup_nil, by simp⟩
theorem w_lws {pes : List Expr} {es : List E} (ha : PA X pes (tEs S (rOs S.K) es)) : PE X (.List pes pos) (tW S (.lws es)) := by
  refine (pe_lst ha).mono fun σ H Q ⟨g, st, env, at_, h⟩ => ?_
  simp only [evW] at h
  refine ⟨g, st, env, at_, ?_⟩
  cases ee : evEs S.cl es env st with
  | bad => rw [ee] at h; exact h.elim
  | exc c s => rw [ee] at h; exact h
  | ok ds st1 =>
    rw [ee] at h
    simp only [R.bind_ok] at h
    intro g1 H1 vs s1 w1 r1
    by_cases hz : ds.length ≤ lim
    · rw [if_pos hz] at h
      cases ew : DD.ownsOf ds with
      | none => rw [ew] at h; exact h.elim
      | some ws =>
        rw [ew] at h
        obtain ⟨os, q1, q2, q3⟩ := r1 ws ew
        refine ⟨by rw [← q1.len, ← ownsOf_len ew]; exact lim_size hz, fun p hp => ?_⟩
        have hno : p ∉ os := fun z => by
          obtain ⟨o, eo⟩ := q1.live z
          rw [hp] at eo; cases eo
        refine h g1 _ _ (s1.trans (Step.alloc hp)) (w1.alloc hp) ⟨p :: os, ⟨p, vs, os, rfl, upd_same, RWs.stp (Stp.alloc hp) (fun b hb o eo => by rw [upd_ne (fun z => hno (by rw [← z]; exact hb))]; exact eo) q1, rfl⟩, ?_, fun b hb => ?_⟩
        · rw [List.nodup_cons]; exact ⟨hno, q2⟩
        · rcases List.mem_cons.mp hb with rfl | hb
          · exact ⟨w1.newF hp, w1.newk hp, s1.live hp⟩
          · exact q3 b hb
    · rw [if_neg hz] at h; exact h.elim
theorem s_junk {p : Stmt} : PS X p (tS S .junk) := ⟨fun pins s σ H D I ⟨g, st, env, at_, h⟩ => by simp only [evS] at h; exact h.elim⟩
end
section
variable {S : Sg} {σ : Sl} {g : Gh} {H : Hp} {st : Store} {env : Ev} {D : Ends}
theorem lemST2 {a : E} {f : Bool → Store → R Fl} (at_ : At S σ H g st env) (h : PostS S g H ((tested (evE S.cl a env st)).bind f) D) :
    tT S a σ H fun k H1 => ∃ g' st', Step g H g' H1 ∧ At S σ H1 g' st' env ∧ PostS S g' H1 (f k st') D := by
  refine ⟨g, st, env, at_, (h.expr (rel := rT) at_).mono fun g' H' d v st' s w r k => ?_⟩
  obtain ⟨g1, st1, d1, s1, w1, r1, h1⟩ := k g' H' v s w r
  cases r1
  exact ⟨g1, st1, s1, at_.step s1 w1, h1⟩
theorem PostS.noNext {r : R Fl} {D' : Ends} (h : PostS S g H (DD.noNext r) D) (hr : ∀ v H', D.rt v H' → D'.rt v H') : PostS S g H r D' := by
  cases r with
  | ok fl st' =>
    cases fl with
    | next env' => exact h.elim
    | ret w => exact fun g' H' v s w r => hr v H' (h g' H' v s w r)
  | exc c st' => exact h
  | bad => exact h
/-- a walk that looks alone, and hands something back where a test holds -/
theorem s_forI {X : Cx} {pos ipos : Pos} {tg iter pc : Expr} {t : T} {it : I} {c : E} {A : List Stmt} {sa : List DD.S} (po : PassesOwn (model X.prog X.w) X.A X.env X.xe) (hc : X.calm = true) (hset : notSet iter = true) (hi : PI X tg iter (wI S false it)) (hg : PG X tg (gT S.K t)) (hp : PT X pc (tT S c)) (ha : PSs X A (tSs S sa)) :
    PS X (.For tg iter [.If pc A [] ipos] [] pos) (tS S (.forI t it c sa)) := by
  refine (ps_for po hc hi hg (pss_one (ps_if hp ha pss_nil)) (folded_of hset)).mono fun D σ H ⟨g, st, env, at_, h⟩ => ?_
  obtain ⟨g0, st0, env0, a0, h0⟩ := lemSI (m := false) at_ h
  refine ⟨g0, st0, env0, a0, h0.mono fun g' H' xs J st' s w r k => ?_⟩
  obtain ⟨g1, st1, xs1, a1, r1, h1⟩ := k g' H' J s w r
  obtain ⟨G, Y, hw, hG, hY⟩ := r1.ex
  refine for_it hw (fun i σc Hc => ∃ gi sti envi, Step g1 H' gi Hc ∧ At S σc Hc gi sti envi ∧ PostS S gi Hc (forGo t (fun env st => (tested (evE S.cl c env st)).bind fun k st => if k then DD.noNext (evSs S.cl sa env st) else .ok (.next env) st) (xs1.drop i) envi sti) D) ⟨g1, st1, env, Step.refl _ _, a1, by simpa using h1⟩ ?_ ?_ ?_
  · rintro i σc Hc hi ⟨gi, sti, envi, s1, _⟩
    exact hG gi Hc s1
  · rintro i x σc Hc Hc' hi ⟨gi, sti, envi, s1, ai, hp⟩ hy
    have ex : xs1[i]? = some xs1[i] := List.getElem?_eq_getElem hi
    rw [List.drop_eq_getElem_cons hi] at hp
    simp only [forGo] at hp
    cases eb : bindT t xs1[i] envi with
    | none => rw [eb] at hp; exact hp.elim
    | some env' =>
      simp only [eb] at hp
      have hs : Step gi Hc gi Hc' ∧ Wf S.K gi Hc' sti ∧ RV S.K gi Hc' xs1[i] x := by
        rcases hY i xs1[i] x gi Hc Hc' ex s1 hy with ⟨e, r⟩ | ⟨p, o, e1, e2, r⟩
        · rw [e]; exact ⟨Step.refl _ _, ai.2.1, r⟩
        · rw [e2] at r ⊢; exact ⟨Step.alloc e1, ai.2.1.alloc e1, r⟩
      obtain ⟨hs, w', rx⟩ := hs
      have hst := hs.stp ai.2.1
      obtain ⟨sa', _, ow, er⟩ := ai.step hs w'
      refine bind_ok eb er rx fun σ2 ow2 er2 _ => ?_
      have hp2 := PostS.stp hst hp
      generalize hF : (fun (fl : Fl) (st : Store) => match fl with
          | .next env => forGo t (fun env st => (tested (evE S.cl c env st)).bind fun k st => if k then DD.noNext (evSs S.cl sa env st) else .ok (.next env) st) (xs1.drop (i + 1)) env st
          | .ret w => R.ok (.ret w) st) = F at hp2
      have e3 : ((tested (evE S.cl c env' sti)).bind fun k st => if k then DD.noNext (evSs S.cl sa env' st) else .ok (.next env') st).bind F = (tested (evE S.cl c env' sti)).bind fun k st => (if k then DD.noNext (evSs S.cl sa env' st) else R.ok (.next env') st).bind F := by
        cases tested (evE S.cl c env' sti) <;> rfl
      have hp3 : PostS S gi Hc' ((tested (evE S.cl c env' sti)).bind fun k st => (if k then DD.noNext (evSs S.cl sa env' st) else R.ok (.next env') st).bind F) D := by
        rw [← e3]; exact hp2
      have at2 : At S σ2 Hc' gi sti env' := ⟨sa', w', ow2, er2⟩
      refine tT_imp (lemST2 at2 hp3) fun k H1 ⟨g2, st2, s2, a2, h2⟩ => ?_
      cases k with
      | true =>
        rw [if_pos rfl]
        rw [if_pos rfl] at h2
        refine ⟨g2, st2, env', a2, ?_⟩
        cases e2 : evSs S.cl sa env' st2 with
        | exc c s => rw [e2] at h2; exact h2
        | bad => rw [e2] at h2; exact h2
        | ok fl st3 =>
          rw [e2] at h2
          cases fl with
          | next env3 => exact h2.elim
          | ret w =>
            subst hF
            exact h2
      | false =>
        rw [if_neg Bool.false_ne_true]
        rw [if_neg Bool.false_ne_true] at h2
        subst hF
        exact ⟨g2, st2, env', (s1.trans hs).trans s2, a2, h2⟩
  · rintro σc Hc ⟨gi, sti, envi, s1, ai, hp⟩
    rw [List.drop_length] at hp
    exact hp gi Hc σc (Stp.refl _ _) ai
end
end DDS

set_option Elab.async false
set_option linter.all false
set_option maxRecDepth 100000
set_option maxHeartbeats 2000000
/-! shared lists: pop, len; a or b; t.count; range downwards -/
namespace DDS
open PySem PySem.Spec PyProof.Rows L2 DD
theorem toPs_len : ∀ ds : List D, (toPs ds).length = ds.length
  | [] => rfl
  | d :: ds => by rw [toPs, List.length_cons, List.length_cons, toPs_len ds]
theorem count_eq {x : D} (hx : shal 12 x = true) : ∀ {ds : List D}, (∀ d ∈ ds, shal 12 d = true) → (toPs ds).countP (fun y => PyData.eqv y (toP x)) = countD ds x
  | [], _ => rfl
  | d :: ds, h => by
    have ih := count_eq hx (ds := ds) fun y hy => h y (by simp [hy])
    rw [toPs, List.countP_cons, ih, ← eqD_eqv (h d (by simp)) hx]
    unfold countD
    rw [List.filter_cons]
    split <;> simp
section
variable {X : Cx}
/-- t.count(x) -/
theorem mt_countN (hu : X.A.units + 65 < cLine) : MtR X "tuple.count" (fun x xs H Q => ∃ p vs z g, ∃ (ds : List D) (d : D), x = .ref p ∧ xs = [z] ∧ SqT X.K H p vs ∧ RVs X.K g H ds vs ∧ RB X.K g H d z ∧ shal 12 d = true ∧ (∀ e ∈ ds, shal 12 e = true) ∧ Q (.int (countD ds d : Nat)) H) := by
  intro pins s σ H x xs v us Q I rx rs ⟨p, vs, z, g, ds, d, ex, es, hq, hv, hz, h1, h2, q⟩
  subst ex es
  cases rx
  obtain ⟨u, rfl, ru⟩ := rs.one
  obtain ⟨its, r, ho, hl⟩ := I.tuple hq
  have dA : DpAll X.K H vs (toPs ds) := RVs.dp (n := 12) h2 hv
  have dX : Dp X.K H z (toP d) := hz.dp (n := 12) h1
  obtain ⟨as, ra⟩ := Dp.readsAll I _ _ _ dA r
  obtain ⟨bs, rb⟩ := Dp.reads I _ _ _ dX ru
  obtain ⟨l1, l2⟩ := shals_lay (n := 12) h2
  obtain ⟨l3, l4⟩ := shal_lay (n := 12) h1
  refine SeqAt.count_tuple_data ho (by simpa using ra) rb (PyData.plainAll_of_canLay0 _ l1) (PyData.plain_of_canLay0 _ l3) (by omega) ?_
  rw [count_eq h1 h2]
  exact ⟨.int (countD ds d : Nat), H, I.tok _, ⟨_, rfl⟩, q⟩
end
section
variable {S : Sg} {X : Cx} {pa pb : Expr} {a b : E} {pos : Pos} {m : Bool} {tg : Expr}
theorem e_count {apos : Pos} (hK : X.K = S.K) (hu : X.A.units + 65 < cLine) (hs : notStar pb = true) (ha : PE X pa (tB S a)) (hb : PE X pb (tB S b)) (hbase : attributeBase pa "count" X.env (eval pa X.env) = eval pa X.env) (hline : (apos.endLine == pos.line) = true)
    (few : ((backTo pos (starEach [pb] X.env)).all (fun x => !x.1) && (backToKw pos (keywordEach [] X.env)).all (fun x => x.1.isSome)
      && decide (([pb] : List Expr).length + ([] : List Keyword).length + (if ([] : List Keyword).isEmpty then 0 else 1) < 30)) = true) :
    PE X (.Call (.Attribute pa "count" apos) [pb] [] pos) (tF S (.m1 .count a b)) := by
  refine (pe_bmN PySem.F.plainAttrs_tuple PySem.F.slot_tuple_count PySem.F.type_tuple_count (mt_countN hu) ha (PA1 hs hb) hbase few hline (star_cons hs) rfl).mono fun σ H Q ⟨g, st, env, at_, h⟩ => ?_
  rw [hK]
  refine tE_imp (lem1 (rel1 := rB S.K) (a := a) (f := fun x st => match x with
    | .tup xs => (evE S.cl b env st).bind fun y st => R.of (me1 .count (.tup xs) y) st
    | _ => .bad) at_ up_F h) fun x H1 ⟨g1, st1, d, a1, r1, h1⟩ => ?_
  cases d <;> try exact h1.elim
  rename_i ds
  obtain ⟨t, vs, rfl, e, r⟩ := id r1
  refine ⟨t, vs, rfl, e, ?_⟩
  refine ⟨g1, st1, env, a1, (Post.bind (rel1 := rB S.K) up_F h1).mono fun g' H' d2 v st' s w r2 k => ?_⟩
  obtain ⟨g2, st2, d3, s2, w2, r3, h2⟩ := k g' H' v s w r2
  by_cases hc : (shal 12 d3 && ds.all (shal 12)) = true
  · simp only [me1, if_pos hc] at h2
    rw [Bool.and_eq_true, List.all_eq_true] at hc
    exact ⟨t, vs, v, g2, ds, d3, rfl, rfl, (Stp.sqn (s2.stp a1.2.1) e).t, r.stp (s2.stp a1.2.1), r3, hc.1, hc.2, h2 g2 H' _ (Step.refl _ _) w2 rfl⟩
  · simp only [me1, if_neg hc] at h2; exact h2.elim
theorem e_orv {rest : List Expr} (ha : PE X pa (tF S a)) (hb : PE X (.BoolOp .Or (pb :: rest) pos) (tF S b)) : PE X (.BoolOp .Or (pa :: pb :: rest) pos) (tF S (.orv a b)) := by
  refine (pe_orT ha hb).mono fun σ H Q ⟨g, st, env, at_, h⟩ => ?_
  refine tE_imp (lem1 (rel1 := rF S.K) at_ up_F h) fun x H1 ⟨g, st, d, a1, r, h1⟩ => ?_
  cases d with
  | non =>
    cases r
    exact ⟨false, rfl, by rw [if_neg Bool.false_ne_true]; exact ⟨g, st, env, a1, h1⟩⟩
  | int i =>
    cases r
    refine ⟨(i != 0), rfl, ?_⟩
    by_cases e : i = 0
    · subst e
      exact ⟨g, st, env, a1, h1⟩
    · have e' : (i != 0) = true := by simpa using e
      simp only [if_neg e] at h1
      rw [if_pos e']
      exact h1 g H1 _ (Step.refl _ _) a1.2.1 rfl
  | _ => exact h1.elim
theorem e_lenC {p : Pos} (hg : Gl X "len") (hm : X.mg "len" = none) (hs : notStar pa = true) (ha : PE X pa (tB S a)) (hK : X.K = S.K) : PE X (.Call (.Name "len" p) [pa] [] pos) (tF S (.lenC a)) := by
  refine (pe_callB call_len hg hm (by decide +kernel) (PA1 hs ha) (by decide) (by decide) (star_cons hs) rfl).mono fun σ H Q ⟨g, st, env, at_, h⟩ => ?_
  refine tE_imp (lem1 (rel1 := rB S.K) (a := a) (f := fun x st => match x with
    | .ref r => match st[r]? with
      | some (.lst ds) => R.ok (D.int ds.length) st
      | none => .bad
    | _ => .bad) at_ up_F h) fun x H1 ⟨g, st, d, a1, r, h1⟩ => ?_
  cases d <;> try exact h1.elim
  rename_i k
  obtain ⟨t, ek, rfl⟩ := r
  cases ec : st[k]? with
  | none => simp only [ec] at h1; exact h1.elim
  | some c =>
    cases c with
    | lst ds =>
      simp only [ec] at h1
      obtain ⟨vs, e1, e2, _⟩ := a1.2.1.cell k _ t ec ek
      refine ⟨.ref t, vs.length, rfl, .inl ⟨vs, .inl (.inl e1), rfl⟩, ?_⟩
      rw [← e2.length]
      exact h1 g H1 _ (Step.refl _ _) a1.2.1 rfl
theorem nolists_erase : ∀ (l : List D) (k : Nat), nolists l = true → nolists (l.eraseIdx k) = true
  | [], k, h => by simpa using h
  | x :: l, 0, h => by
    rw [nolists, Bool.and_eq_true] at h
    exact h.2
  | x :: l, k + 1, h => by
    rw [nolists, Bool.and_eq_true] at h
    rw [List.eraseIdx_cons_succ, nolists, h.1, nolists_erase l k h.2]; rfl
theorem RVs.erase {K : PySem.W.Frag} {g : Gh} {H : Hp} : ∀ {ds : List D} {vs : List V} (k : Nat), RVs K g H ds vs → RVs K g H (ds.eraseIdx k) (vs.eraseIdx k)
  | [], vs, k, h => by
    rw [show vs = [] from h]; rfl
  | d :: ds, vs, 0, h => by
    obtain ⟨v, ws, rfl, h1, h2⟩ := h
    exact h2
  | d :: ds, vs, k + 1, h => by
    obtain ⟨v, ws, rfl, h1, h2⟩ := h
    exact ⟨v, _, rfl, h1, RVs.erase k h2⟩
theorem place_seq {n k : Nat} {i : Int} (h : place n i = some k) : seqIndex? i n = some k ∧ i < n ∧ -(n : Int) ≤ i := by
  unfold place at h
  unfold seqIndex?
  simp only [Bool.and_eq_true, decide_eq_true_eq]
  by_cases h0 : 0 ≤ i
  · rw [if_pos h0] at h
    rw [if_neg (show ¬ i < 0 by omega)]
    by_cases h1 : i < n
    · rw [if_pos h1] at h
      exact ⟨by rw [if_pos ⟨h0, h1⟩]; exact h, h1, by omega⟩
    · rw [if_neg h1] at h; cases h
  · rw [if_neg h0] at h
    rw [if_pos (show i < 0 by omega)]
    by_cases h1 : 0 ≤ i + n
    · rw [if_pos h1] at h
      exact ⟨by rw [if_pos ⟨h1, by omega⟩]; exact h, by omega, by omega⟩
    · rw [if_neg h1] at h; cases h
theorem e_popC {apos : Pos} (hK : X.K = S.K) (hs : notStar pb = true) (ha : PE X pa (tB S a)) (hb : PE X pb (tB S b)) (hbase : attributeBase pa "pop" X.env (eval pa X.env) = eval pa X.env) (hline : (apos.endLine == pos.line) = true) (few : ((backTo pos (starEach [pb] X.env)).all (fun x => !x.1) && (backToKw pos (keywordEach [] X.env)).all (fun x => x.1.isSome)
      && decide (([pb] : List Expr).length + ([] : List Keyword).length + (if ([] : List Keyword).isEmpty then 0 else 1) < 30)) = true) :
    PE X (.Call (.Attribute pa "pop" apos) [pb] [] pos) (tF S (.popC a b)) := by
  refine (pe_bm PySem.F.plainAttrs_list PySem.F.slot_list_pop PySem.F.type_list_pop mt_popAt ha (PA1 hs hb) hbase few hline (star_cons hs) rfl).mono fun σ H Q ⟨g, st, env, at_, h⟩ => ?_
  refine tE_imp (lem1 (rel1 := rB S.K) (a := a) (f := fun x st => match x with
    | .ref r => (evE S.cl b env st).bind fun y st => match y with
      | .int k => match (st[r]?).bind fun c => cellPop c k with
        | some (d, c) => R.ok d (st.set r c)
        | none => .bad
      | _ => .bad
    | _ => .bad) at_ up_F h) fun x H1 ⟨g1, st1, d, a1, r1, h1⟩ => ?_
  cases d <;> try exact h1.elim
  rename_i r
  obtain ⟨p, ek, rfl⟩ := r1
  obtain ⟨vs1, e1⟩ := a1.2.1.at (List.mem_of_getElem? ek)
  refine ⟨.inl ⟨rfl, vs1, .inl (.inl e1)⟩, ⟨g1, st1, env, a1, (Post.bind (rel1 := rB S.K) up_F h1).mono fun g' H' d2 y st' s w r2 k => ?_⟩⟩
  obtain ⟨g2, st2, d3, s2, w2, r3, h2⟩ := k g' H' y s w r2
  cases d3 <;> try exact h2.elim
  rename_i i
  cases r3
  have ek2 := prefix_get s2.ks ek
  cases ec : st2[r]? with
  | none => simp only [ec] at h2; exact h2.elim
  | some c =>
    cases c with
    | lst ds =>
      obtain ⟨vs, q1, q2, q3⟩ := w2.cell r _ p ec ek2
      simp only [ec, Option.bind_some, cellPop] at h2
      by_cases hz : ds.length ≤ lim
      · simp only [if_pos hz] at h2
        cases ep : place ds.length i with
        | none => simp only [ep] at h2; exact h2.elim
        | some j =>
          cases ed : ds[j]? with
          | none => simp only [ep, ed, Option.bind_some, Option.map_none] at h2; exact h2.elim
          | some d =>
            simp only [ep, ed, Option.bind_some, Option.map_some] at h2
            obtain ⟨p1, p2, p3⟩ := place_seq ep
            obtain ⟨v, ev, rv⟩ := q2.get ed
            have l2 : lim = 1000000 := rfl
            refine ⟨p, vs, i, j, v, rfl, rfl, q1, by omega, by omega, by rw [← q2.length]; exact p1, ev, ?_⟩
            have hpk : p ∈ g2.ks := List.mem_of_getElem? ek2
            have hF : ¬ g2.F p := w2.nF p hpk
            have hst : Stp g2 H' g2 (upd H' p (.lst (vs.eraseIdx j))) := Stp.upd hF q1
            have hstep : Step g2 H' g2 (upd H' p (.lst (vs.eraseIdx j))) := ⟨fun _ z => z, List.prefix_rfl, fun b o eb nb => by rw [upd_ne (fun z => nb (by rw [z]; exact hpk))]; exact eb, hst.lv, fun _ z => .inl z, fun _ z => .inl z⟩
            have hw : Wf S.K g2 (upd H' p (.lst (vs.eraseIdx j))) (st2.set r (.lst (ds.eraseIdx j))) := by
              refine ⟨by simp [w2.len], w2.nd, fun k c b e3 e4 => ?_, w2.nF, fun b hb => ?_⟩
              · by_cases hk : k = r
                · subst hk
                  rw [ek2] at e4; cases e4
                  rw [List.getElem?_set_self (lt_of_get ec)] at e3; cases e3
                  exact ⟨_, upd_same, RVs.erase j (q2.stp hst), nolists_erase ds j q3⟩
                · rw [List.getElem?_set_ne (Ne.symm hk)] at e3
                  refine (w2.cell k c b e3 e4).stp hst fun o eo => ?_
                  rw [upd_ne (fun z => hk ?_)]; exact eo
                  subst z
                  exact nodup_inj w2.nd e4 ek2
              · obtain ⟨o, eo⟩ := w2.lv b hb
                exact ⟨o, by rw [upd_ne (fun z => hF (by rw [← z]; exact hb))]; exact eo⟩
            exact h2 g2 _ v hstep hw (RV.stp hst rv)
      · simp only [if_neg hz] at h2; exact h2.elim
theorem dn_it {lo hi : Int} {K : PySem.W.Frag} {g : Gh} {H : Hp} {xs : List D} (h : rangeD lo hi = some xs) : RgC lo hi (-1) (lo - hi).toNat ∧ ItOk K m g H xs (Itc lo (-1) (lo - hi).toNat) := by
  unfold rangeD at h
  split at h
  case isFalse => cases h
  rename_i hb
  have l2 : lim = 1000000 := rfl
  cases h
  refine ⟨RgC.neg (by omega) (by omega) (by omega) (by omega), ⟨fun _ => True, YFn fun i => .int (lo + i * (-1)), ?_, fun _ _ _ => trivial, fun i d x g' H' H'' e1 q ⟨e2, e3⟩ => .inl ⟨e2, ?_⟩⟩⟩
  · rw [List.length_map, List.length_range]; exact walk_rangeC
  · rw [List.getElem?_map] at e1
    rcases Nat.lt_or_ge i (lo - hi).toNat with hi' | hi'
    · rw [List.getElem?_range hi'] at e1
      cases e1
      rw [e3]
      show V.int (lo + ↑i * (-1)) = V.int (lo - ↑i)
      congr 1; omega
    · rw [List.getElem?_eq_none (by simpa using hi')] at e1; cases e1
theorem i_dn {p p2 p3 : Pos} {kk : Nat} (hg : Gl X "range") (hm : X.mg "range" = none) (hs : notStar pa = true) (hs2 : notStar pb = true) (ha : PE X pa (tB S a)) (hb : PE X pb (tB S b)) : PI X tg (.Call (.Name "range" p) [pa, pb, .UnaryOp .USub (.Constant (.int 1) kk p3) p2] [] pos) (wI S m (.dn a b)) := by
  refine (pi_range3 hg hm (pa_cons ha (PA2 hs2 rfl hb (pe_un un_neg pe_int)) (star_cons hs)) (star_cons hs) (star_all (by rw [List.all_cons, hs2]; rfl))).mono fun σ H Rr ⟨g, st, env, at_, h⟩ => ?_
  refine tE_imp (lem2 (a := a) (b := b) (f := fun x y st => match x, y with
    | .int i, .int j => R.of (rangeD i j) st
    | _, _ => .bad) at_ up_I h) fun x H1 h1 => tE_imp h1 fun y H2 ⟨g, st, d1, d2, a2, r1, r2, h2⟩ => ?_
  cases d1 <;> try exact h2.elim
  cases d2 <;> try exact h2.elim
  rename_i i j
  cases r1; cases r2
  cases e : rangeD i j with
  | none => simp only [e] at h2; exact h2.elim
  | some xs =>
    simp only [e] at h2
    obtain ⟨hb, hi⟩ := dn_it (m := m) (K := S.K) (g := g) (H := H2) e
    exact ⟨1, rfl, i, j, -1, _, rfl, hb, h2 g H2 _ (Step.refl _ _) a2.2.1 hi⟩
theorem e_idx2 {i : Nat} {x : Str} {px ps2 : Pos} {pc : Expr} {c : E} (hK : X.K = S.K) (hN : X.N[i]? = some x) (hv : Vis X.env.scope x) (hd : (x == ("__debug__" : Str)) = false) (hcd : (x == ("__classdict__" : Str)) = false) (hp : plainSub pb = true) (hp2 : plainSub pc = true)
    (hk : PE X pb (tB S b)) (hl : PE X pc (tB S c)) : PE X (.Subscript (.Subscript (.Name x px) pb ps2) pc pos) (tF S (.idx2 i b c)) := by
  refine (pe_ix ix_list (pe_ix ix_list (pe_var hN hv hd hcd) hk (plainIx_of hp)) hl (plainIx_of hp2)).mono fun σ H Q ⟨g, st, env, at_, h⟩ => ?_
  simp only [evE] at h
  split at h
  · rename_i ws e
    obtain ⟨_, _, ow, er⟩ := id at_
    obtain ⟨p, vs, os, e1, e2, e3, e4⟩ := lw_slot er e
    refine ⟨_, e1, tE_imp (lem1 (rel1 := rB S.K) at_ up_F h) fun y H2 ⟨g2, st2, d2, a2, r2, h2⟩ => ?_⟩
    cases d2 <;> try exact h2.elim
    rename_i n
    cases r2
    obtain ⟨s2, w2, ow2, er2⟩ := id a2
    obtain ⟨p', vs2, os2, e1', e2', e3', e4'⟩ := lw_slot er2 e
    rw [e1] at e1'; cases e1'
    cases eo : ownAt ws n with
    | none => simp only [eo] at h2; exact h2.elim
    | some ds =>
      simp only [eo, R.of_some, R.bind_ok] at h2
      obtain ⟨q, ep, eq⟩ := ownAt_some eo
      have nd2 := er2.nd i
      rw [e4', List.nodup_cons] at nd2
      obtain ⟨bb, us, q1, q2, q3, q4, q5⟩ := RWs.setAt e3' nd2.2 eq
      have hix : ixN vs2.length n = some q := by rw [← place_ix, ← e3'.length]; exact ep
      refine ⟨p, vs2, n, .ref bb, rfl, rfl, .inl (.inl e2'), atI_of hix q1, ?_⟩
      refine ⟨g2, st2, env, a2, (Post.bind (rel1 := rB S.K) up_F h2).mono fun g' H3 d v st' s w r k => ?_⟩
      obtain ⟨g3, st3, d3, ss3, w3, r3, h3⟩ := k g' H3 v s w r
      cases d3 <;> try exact h3.elim
      rename_i m
      cases r3
      have hbo : bb ∈ ow2 i := by rw [e4']; simp [q4]
      have hbk := (er2.own i bb hbo).2.1
      have f2 := ss3.kp bb _ q2 hbk
      have f3 := q3.stp (ss3.stp w2)
      cases ej : (place ds.length m).bind (ds[·]?) with
      | none => simp only [ej] at h3; exact h3.elim
      | some dd =>
        simp only [ej] at h3
        obtain ⟨v', t1, t2⟩ := RVs.atI f3 ej
        exact ⟨bb, us, m, v', rfl, rfl, .inl (.inl f2), t1, h3 g3 H3 v' (Step.refl _ _) w3 t2⟩
  · exact h.elim
end
end DDS

set_option Elab.async false
set_option linter.all false
set_option maxRecDepth 100000
set_option maxHeartbeats 2000000
/-! texts: split by a sign, join -/
namespace DDS
open PySem PySem.Spec PyProof.Rows L2 DD TL
theorem spl_C (c : Nat) : ∀ (l acc : List Nat), spl [c] 0 acc l = splC c acc l
  | [], acc => by unfold spl splC; rfl
  | d :: r, acc => by
    have e : pre [c] (d :: r) = decide (d = c) := by
      show (List.take 1 (d :: r) == [c]) = decide (d = c)
      by_cases h : d = c
      · subst h; simp
      · simp [h]
    unfold spl splC
    rw [e]
    by_cases h : d = c
    · rw [if_pos (by simpa using h), if_pos h]
      congr 1
      exact spl_C c r []
    · rw [if_neg (by simpa using h), if_neg h]
      exact spl_C c r (acc ++ [d])
theorem split_C {z : Str} {c : Nat} (hc : c < 256) : Txt.split z ⟨#[c]⟩ = (splC c [] z.cps.toList).map fun l => (⟨l.toArray⟩ : Str) := by
  have hk : (⟨#[c]⟩ : Str).cps.all (· < 256) = true := by simp [hc]
  have h := split_spl z ⟨#[c]⟩ (by simp) (kind_ok hk)
  rw [show tl (⟨#[c]⟩ : Str) = [c] from rfl, spl_C] at h
  show _ = (splC c [] (tl z)).map _
  rw [← h, List.map_map]
  refine (List.map_id _).symm.trans (List.map_congr_left fun x _ => (mk_tl x).symm)
section
variable {S : Sg} {X : Cx} {pa pb : Expr} {a b : E} {pos : Pos}
theorem RVs.strs {K : PySem.W.Frag} {g : Gh} {H : Hp} : ∀ ss : List Str, RVs K g H (ss.map D.str) (ss.map V.str)
  | [] => rfl
  | s :: ss => ⟨.str s, ss.map V.str, rfl, rfl, RVs.strs ss⟩
theorem e_split {apos : Pos} (hs : notStar pb = true) (ha : PE X pa (tB S a)) (hb : PE X pb (tB S b)) (hbase : attributeBase pa "split" X.env (eval pa X.env) = eval pa X.env) (hline : (apos.endLine == pos.line) = true) :
    PE X (.Call (.Attribute pa "split" apos) [pb] [] pos) (tN S (.ms .split a b)) := by
  refine (pe_split ha hb (by rw [star_cons hs]; rfl) hbase hline).mono fun σ H Q ⟨g, st, env, at_, h⟩ => ?_
  refine tE_imp (lem1 (rel1 := rB S.K) (a := a) (f := fun x st => match x with
    | .str s => (evE S.cl b env st).bind fun y st => R.of (me1 .split (.str s) y) st
    | _ => .bad) at_ up_N h) fun x H1 ⟨g1, st1, d, a1, r1, h1⟩ => ?_
  cases d <;> try exact h1.elim
  rename_i z
  cases r1
  refine ⟨⟨z, rfl⟩, ⟨g1, st1, env, a1, (Post.bind (rel1 := rB S.K) up_N h1).mono fun g' H' d2 v st' s w r2 k => ?_⟩⟩
  obtain ⟨g2, st2, d3, s2, w2, r3, h2⟩ := k g' H' v s w r2
  cases d3 <;> try exact h2.elim
  rename_i y
  cases r3
  cases ec : y.cps.toList with
  | nil => simp only [me1, ec] at h2; exact h2.elim
  | cons c cs =>
    cases cs with
    | cons c2 cs => simp only [me1, ec] at h2; exact h2.elim
    | nil =>
      have ey : y = ⟨#[c]⟩ := by
        obtain ⟨q⟩ := y
        congr 1
        exact Array.toList_inj.mp ec
      subst ey
      by_cases hz : z.length + 2 ≤ lim ∧ c < 256
      · simp only [me1, ec, if_pos hz, R.of_some] at h2
        refine ⟨z, ⟨#[c]⟩, rfl, rfl, rfl, Nat.le_trans hz.1 lim_le, fun p hp => ?_⟩
        rw [split_C hz.2]
        have e : (splC c [] z.cps.toList).map (fun l => D.str ⟨l.toArray⟩) = ((splC c [] z.cps.toList).map fun l => (⟨l.toArray⟩ : Str)).map D.str := by rw [List.map_map]; rfl
        rw [e] at h2
        exact h2 g2 _ _ (Step.alloc hp) (w2.alloc hp) ⟨p, _, rfl, upd_same, RVs.strs _, w2.newF hp, w2.newk hp, hp⟩
      · simp only [me1, ec, if_neg hz] at h2; exact h2.elim
theorem e_join {apos : Pos} (hK : X.K = S.K) (hs : notStar pb = true) (ha : PE X pa (tB S a)) (hb : PE X pb (tB S b)) (hbase : attributeBase pa "join" X.env (eval pa X.env) = eval pa X.env) (hline : (apos.endLine == pos.line) = true) :
    PE X (.Call (.Attribute pa "join" apos) [pb] [] pos) (tN S (.ms .join a b)) := by
  refine (pe_join ha hb (by rw [star_cons hs]; rfl) hbase hline).mono fun σ H Q ⟨g, st, env, at_, h⟩ => ?_
  refine tE_imp (lem1 (rel1 := rB S.K) (a := a) (f := fun x st => match x with
    | .str s => (evE S.cl b env st).bind fun y st => R.of (me1 .join (.str s) y) st
    | _ => .bad) at_ up_N h) fun x H1 ⟨g1, st1, d, a1, r1, h1⟩ => ?_
  cases d <;> try exact h1.elim
  rename_i z
  cases r1
  refine ⟨⟨z, rfl⟩, ⟨g1, st1, env, a1, (Post.bind (rel1 := rB S.K) up_N h1).mono fun g' H' d2 v st' s w r2 k => ?_⟩⟩
  obtain ⟨g2, st2, d3, s2, w2, r3, h2⟩ := k g' H' v s w r2
  cases d3 <;> try exact h2.elim
  rename_i ds
  obtain ⟨p, vs, rfl, nk, e1, rv⟩ := r3
  cases es : strsOf ds with
  | none => simp only [me1, es, Option.bind_none] at h2; exact h2.elim
  | some ss =>
    by_cases hz : (ss.map (·.length)).sum + ss.length * z.length ≤ lim
    · simp only [me1, es, Option.bind_some, if_pos hz, R.of_some] at h2
      have := RVs.strv es rv
      subst this
      refine ⟨z, p, ss, rfl, rfl, .inl (.inl (.inl e1)), Nat.le_trans hz (by decide), ?_⟩
      rw [join_eq]
      exact h2 g2 H' _ (Step.refl _ _) w2 rfl
    · simp only [me1, es, Option.bind_some, if_neg hz] at h2; exact h2.elim
end
end DDS

set_option Elab.async false
set_option linter.all false
set_option maxRecDepth 100000
set_option maxHeartbeats 2000000
namespace DDS
open PySem PySem.Spec PyProof.Rows L2 DD
/-! ### a def that is handed the exception that is handled -/
/-- isinstance(e, c), e an exception that the context holds -/
theorem call_isX {X : Cx} {a D : Addr} {oe : Obj} (hm : (a, oe) ∈ X.pn) (C : ExcC X.K D) (hz : Zc (.ref D) none oe) (hf : ∃ vs, oe.data = .fields vs) : CallR X (.builtin "isinstance") (rIsE X.K D a) := by
  intro pins s σ H xs us Q I r h
  obtain ⟨c, cv, b, rfl, hcv, e, q⟩ := h
  cases r with
  | cons rx rr =>
    cases rr with
    | cons rt rr =>
      cases rr
      cases rx
      have ec := hcv _ rt
      subst ec
      obtain ⟨hget, _⟩ := I.pin (a, oe) (List.mem_append_left _ hm)
      obtain ⟨vs, hv⟩ := hf
      have J : PySem.W.InstAt s.heap a oe D none := by
        obtain ⟨oc, od, oda, osl⟩ := oe
        obtain ⟨h1, h2⟩ := hz
        dsimp only at h1 h2 hv
        subst h1 h2 hv
        exact ⟨hget, rfl, rfl, trivial⟩
      exact PySem.W.kia_one (PySem.W.handS_kitx_exc C.hg C.hk C.hs C.hd C.ha C.hn C.ht C.hm) I.kIn J e (fun z => nomatch z) fun tk => ⟨.bl b, H, I.kept (t' := tk) fun _ _ z => z, rfl, q⟩
/-- l.count(True), l a list of truths -/
def rCntB (K : PySem.W.Frag) : V → List V → Hp → VK → Prop := fun x xs H Q => ∃ (p : Addr) (bs : List Bool), x = .ref p ∧ xs = [.bl true] ∧ SqL K H p (bs.map V.bl) ∧ Q (.int (bs.count true : Nat)) H
theorem flat_bls (bs : List Bool) : (bs.map V.bl).all flatV = true := by
  rw [List.all_map]
  exact List.all_eq_true.mpr fun _ _ => rfl
theorem mt_cntB {X : Cx} : MtR X "list.count" (rCntB X.K) := by
  intro pins s σ H x xs v us Q I rx rxs h
  obtain ⟨p, bs, rfl, rfl, hs, q⟩ := h
  cases rx
  obtain ⟨u, rfl, ru⟩ := rxs.one
  have ru' : u = .bool true := ru
  subst ru'
  obtain ⟨its, rv, ⟨⟨cls, dd, data, sl⟩, n, ho, hc, hdn, hd⟩, hlen⟩ := I.list hs
  simp only at hc hd
  subst hc hd
  refine call_meets PySem.F.slot_list_count ⟨_, ho, rfl⟩ PySem.F.entry_list_count (PySem.F.args_list_count_2 _ _)
    (SeqAt.list_countAt p its.toArray n dd sl (.bool true) (eqU (.bl true))) ⟨ho, fun y hy => mem_eqAt (x := .bl true) rfl rfl rv (flat_bls bs) y (by simpa using hy), ?_⟩
  have ec : its.toArray.toList.countP (eqU (.bl true)) = bs.count true := by
    have key : ∀ (bs : List Bool) (its : List Value), Vals (bs.map V.bl) its → its.countP (eqU (.bl true)) = bs.count true := by
      intro bs
      induction bs with
      | nil => intro its r; cases r; rfl
      | cons b bs ih =>
        intro its r
        cases r with
        | cons r1 r2 =>
          rename_i u us
          have e1 : u = .bool b := r1
          subst e1
          rw [List.countP_cons, ih us r2, List.count_cons]
          cases b <;> rfl
    exact key bs _ (by simpa using rv)
  refine ⟨.int (bs.count true : Nat), H, I.tok _, ⟨s.toks, ?_⟩, q⟩
  show Value.int ((its.toArray.toList.countP (eqU (.bl true)) : Nat) : Int) s.toks = Value.int ((bs.count true : Nat) : Int) s.toks
  rw [ec]
/-- what such a def promises, asked of an exception of the class D: the word -/
structure FnE (P : Program) (w : World) (K : PySem.W.Frag) (mg : Str → Option Value) (base : Heap) (CX : CXT) (f : Addr) (fd : FuncData) (ps : List Str) (D : Addr) (word : Str) : Prop where
  run : ∀ (A : Around) (outer : List Env) (s : Shared) (H : Hp) (args : Args) (us : List Value) (Q : VK) (E : XK) (p : Addr × Obj), L2H.RoomH 0 A → L2H.Hot1 A p → L2H.PinOk outer H s p → Zc (.ref D) none p.2 → Env0 P w K mg base A outer s H → BindsTo s fd args (ps.zip us) → Vals [V.ref p.1] us →
    (∀ H', (∀ b o, H b = some o → H' b = some o) → Q (.str word) H') → codeAny (model P w) A (.call (.ref f) args) (CR CX outer P w H s Q E) s
theorem fn_ofE {CX : CXT} {P : Program} {w : World} {K : PySem.W.Frag} {mg : Str → Option Value} {base : Heap} {f : Addr} {name qual : Str} {params : Arguments} {body : List Stmt} {scope : Scope} {dV kV doc pm cdv ct oc : Value} {an od : Option Addr}
    {osl : Array (Option Value)} {N : List Str} {pn : Str} {D : Addr} {word : Str} (lk : K.lookup f = some ⟨oc, od, .func (PySem.W.fnOf name qual params body scope dV kV doc pm an cdv ct), osl⟩) (hcd : PySem.W.codeIn K cdv qual = true) (S : FnScope N [pn] scope)
    (hbody : ∀ (A : Around) (outer : List Env) (s : Shared) (H : Hp) (Q : VK) (E : XK) (p : Addr × Obj), L2H.Hot1 A p → Zc (.ref D) none p.2 → (∀ H', (∀ b o, H b = some o → H' b = some o) → Q (.str word) H') →
      ∃ t, PSs (L2H.cxH CX P w K mg base N qual scope f cdv A outer s H E p) body t ∧ t { nx := fun _ H' => Q .non H', rt := Q } (L2.start N [.ref p.1]) H) :
    FnE P w K mg base CX f (PySem.W.fnOf name qual params body scope dV kV doc pm an cdv ct) [pn] D word := by
  refine ⟨fun A outer s H args us Q E p hr hot hpin hz e0 hb r hq0 => ?_⟩
  have hl : [V.ref p.1].length = [pn].length := rfl
  have KX : K.In s.heap := e0.mod.kin.keeps fun b o e => (e0.bs b o e).1
  have lim : s.heap.NoLimit := e0.mod.nolimit.keeps fun b o e => (e0.bs b o e).1
  have hkind : ∀ y ∈ [pn].zip us, scope.names.lookup y.1 = some .local ∨ (scope.names.lookup y.1 = some .cell ∧ ((cellsFrom (s.heap.objs.size + 1) scope.names []).lookup y.1).isSome = true) := fun ⟨n, v⟩ hy => by
    rcases S.par n (List.of_mem_zip hy).1 with q | q
    · exact .inl q
    · exact .inr ⟨q, PySem.W.cellsFrom_some _ _ _ (.inl q)⟩
  refine codeAny_call_function hr.depth (KX _ _ lk) rfl S.co S.gen rfl (PySem.W.codeRec_of KX hcd) (hb _ _ _ _ ?_)
  refine wpAny_newFunctionEnv_cells S.kind hkind fun env he s1 x => ?_
  subst he
  refine ⟨lim.keeps x.toInCall.keep, codeAny_func ?_⟩
  obtain ⟨t, ht, hq⟩ := hbody A outer s H Q E p hot hz hq0
  have I : Inv (L2H.cxH CX P w K mg base N qual scope f cdv A outer s H E p) [] (L2.start N [.ref p.1]) H s1 := L2H.inv_startH S hpin e0 hl r x
  refine wpAny_mono (ht.run [] s1 (L2.start N [.ref p.1]) H _ I hq) (fun fl s' hs => ?_) fun e s' hs => hs
  have fin : ∀ {σ' : L2.St} {H' : Hp} {v : V} {u : Value}, Inv (L2H.cxH CX P w K mg base N qual scope f cdv A outer s H E p) [] σ' H' s' → RelV v u → Q v H' → CE outer P w H s Q u s' :=
    fun {σ' H' v u} J rv q => ⟨v, H', J.os, J.bare, J.base, J.hok, rv, q⟩
  cases fl with
  | ret u =>
    obtain ⟨v, σ', H', J, rv, q⟩ := hs
    exact fin J rv q
  | next =>
    obtain ⟨σ', H', J, q⟩ := hs
    exact fin (v := V.non) (u := Value.none) J rfl q
  | brk =>
    obtain ⟨_, _, _, q⟩ := hs
    exact False.elim q
  | cont =>
    obtain ⟨_, _, _, q⟩ := hs
    exact False.elim q
/-- such a def is called in the suite -/
theorem pe_callE {X : Cx} {CX : CXT} {f D : Addr} {fd : FuncData} {pn x : Str} {q pos : Pos} {e : Expr} {t : TE} {word : Str} {p : Addr × Obj} (F : FnE X.prog X.w X.K X.mg X.base CX f fd [pn] D word) (hr : L2H.RoomH 0 X.A) (hot : L2H.Hot1 X.A p) (hp : p ∈ X.pn) (hz : Zc (.ref D) none p.2) (hg : Gl X x) (hm : X.mg x = some (.ref f)) (hk : PySem.W.keepIn X.K (.ref f) = true) (hb : Binds X.K fd [pn] [])
    (hx : ∀ σ, PassesAt CX X σ (fun _ _ _ => False)) (he : PE X e t) (hs : notStar e = true) (hdb : (x == ("__debug__" : Str)) = false) :
    PE X (.Call (.Name x q) [e] [] pos) (fun σ H Q => tCons t tNil σ H fun vs H1 => vs = [.ref p.1] ∧ ∀ H', (∀ b o, H1 b = some o → H' b = some o) → Q (.str word) H') := by
  refine ⟨fun pins s σ H Q I h => ?_⟩
  refine wpAny_Call_Name_kw (ld_glob I hg hm ?_ hdb)
  refine PySem.W.callWith_K (h₀ := X.base) I.ok.mod.kin hk (thn ((PA1 hs he).run pos pins s σ H _ I h) fun us s1 ⟨vs, H1, I1, r, ev, q⟩ => ⟨I1.kIn, ?_⟩) (star_cons hs) rfl
  subst ev
  have hl : us.length = [pn].length := by rw [← r.length]; rfl
  have b := hb s1 us I1.kIn (by rw [List.append_nil]; exact hl)
  rw [List.append_nil] at b
  have P1 := I1.pin p (List.mem_append_left _ hp)
  have hpin : L2H.PinOk X.stack H1 s1 p := ⟨P1.1, P1.2.1, fun hm => (List.mem_cons.mp (I1.stkSub p.1 hm)).elim P1.2.2.1 P1.2.2.2.1, P1.2.2.2.2⟩
  refine wpAny_call (codeAny_mono (F.run X.A X.stack s1 H1 ⟨us, []⟩ us Q (fun _ _ _ => False) p hr hot hpin hz I1.env0 b r q) fun r s' hq => ?_)
  cases r with
  | error e => exact hx σ pins H1 s1 e s' I1 hq
  | ok fl =>
    cases fl with
    | ret u => exact I1.after hq
    | next => exact False.elim hq
    | brk => exact False.elim hq
    | cont => exact False.elim hq
/-- the def of the words, asked of the class c -/
structure KinAt (X : Cx) (S : Sg) (x : Str) (c : Nat) (word : Str) : Prop where
  ex : ∃ fa fd pn, FnE X.prog X.w X.K X.mg X.base (L2N.CX X.prog X.w) fa fd [pn] (S.ca c) word ∧ X.mg x = some (.ref fa) ∧ PySem.W.keepIn X.K (.ref fa) = true ∧ Binds X.K fd [pn] []
  cl : PySem.W.exmOne X.K (.ref (S.ca c)) (.ref (S.ca 0)) = some true
end DDS

set_option Elab.async false
set_option linter.all false
set_option maxRecDepth 100000
set_option maxHeartbeats 2000000
/-! dicts: a name's own, locked for good, looked into -/
namespace DDS
open PySem PySem.Spec PyProof.Rows L2 DD
section
variable {K : PySem.W.Frag} {g g' : Gh} {H H' : Hp} {st : Store}
theorem dfind_ok {n : Int} : ∀ {kvs : List (Key × V)} {us : List D}, RVs K g H us (kvs.map (·.2)) →
    (dfind (kvs.map fun p => kD p.1) us n = none ∧ valV kvs (.inl n) = none) ∨ ∃ d v, dfind (kvs.map fun p => kD p.1) us n = some d ∧ valV kvs (.inl n) = some v ∧ RV K g H d v
  | [], us, h => .inl ⟨by cases us <;> rfl, rfl⟩
  | (k, v) :: kvs, us, h => by
    cases us with
    | nil => cases (show _ = _ from h)
    | cons d us =>
      obtain ⟨v', vs, e, h1, h2⟩ := h
      rw [List.map_cons] at e
      injection e with e1 e2
      subst e1
      rw [← e2] at h2
      have ih := dfind_ok (n := n) h2
      cases k with
      | inl m =>
        by_cases hm : m = n
        · subst hm
          refine .inr ⟨d, v, ?_, valV_pos rfl, h1⟩
          simp [dfind, kD]
        · have hv : valV ((Sum.inl m, v) :: kvs) (.inl n) = valV kvs (.inl n) := valV_neg fun e => hm (Sum.inl.inj e)
          have hd : dfind (((Sum.inl m, v) :: kvs).map fun p => kD p.1) (d :: us) n = dfind (kvs.map fun p => kD p.1) us n := by simp [dfind, kD, hm]
          rw [hv, hd]; exact ih
      | inr x =>
        have hv : valV ((Sum.inr x, v) :: kvs) (.inl n) = valV kvs (.inl n) := valV_neg fun e => nomatch e
        have hd : dfind (((Sum.inr x, v) :: kvs).map fun p => kD p.1) (d :: us) n = dfind (kvs.map fun p => kD p.1) us n := by simp [dfind, kD]
        rw [hv, hd]; exact ih
theorem dsetv_ok {n : Int} {d : D} {v : V} (r : RV K g H d v) : ∀ {kvs : List (Key × V)} {us : List D}, RVs K g H us (kvs.map (·.2)) →
    RVs K g H (dsetv (kvs.map fun p => kD p.1) us n d) ((kvs.map fun kv => if kv.1 = .inl n then (kv.1, v) else kv).map (·.2))
  | [], us, h => by cases us <;> first | rfl | (obtain ⟨_, _, e, _⟩ := h; cases e)
  | (k, u) :: kvs, us, h => by
    cases us with
    | nil => cases (show _ = _ from h)
    | cons c us =>
      obtain ⟨v', vs, e, h1, h2⟩ := h
      rw [List.map_cons] at e
      injection e with e1 e2
      subst e1
      rw [← e2] at h2
      have ih := dsetv_ok (n := n) r h2
      rw [List.map_cons, List.map_cons]
      cases k with
      | inl m =>
        by_cases hm : m = n
        · subst hm
          simp only [List.map_cons, kD, dsetv, if_true]
          exact ⟨_, _, rfl, r, ih⟩
        · have : ¬ ((Sum.inl m : Key) = .inl n) := fun e => hm (Sum.inl.inj e)
          simp only [List.map_cons, kD, dsetv, if_neg hm, if_neg this]
          exact ⟨_, _, rfl, h1, ih⟩
      | inr x =>
        have : ¬ ((Sum.inr x : Key) = .inl n) := fun e => nomatch e
        simp only [List.map_cons, kD, dsetv, if_neg this]
        exact ⟨_, _, rfl, h1, ih⟩
theorem RVs.snoc {d : D} {v : V} (r : RV K g H d v) {ds : List D} {vs : List V} (h : RVs K g H ds vs) : RVs K g H (ds ++ [d]) (vs ++ [v]) := RVs.append h ⟨v, [], rfl, r, rfl⟩
/-- a dict that is put to -/
theorem dput_ok {n : Int} {d : D} {v : V} (r : RV K g H d v) {kvs : List (Key × V)} {us : List D} (h : RVs K g H us (kvs.map (·.2))) :
    ∃ ks' us', dputW (kvs.map fun (p : Key × V) => kD p.1) us n d = DD.W.ownD ks' us' ∧ ks' = (putK kvs (.inl n) v).map (fun p => kD p.1) ∧ RVs K g H us' ((putK kvs (.inl n) v).map (·.2)) := by
  unfold dputW
  rcases dfind_ok (n := n) h with ⟨e1, e2⟩ | ⟨d', v', e1, e2, _⟩
  · rw [e1, putK_new v e2]
    refine ⟨_, _, rfl, by rw [List.map_append]; rfl, ?_⟩
    rw [List.map_append]
    exact RVs.snoc r h
  · rw [e1]
    have e3 : putK kvs (.inl n) v = kvs.map fun kv => if kv.1 = .inl n then (kv.1, v) else kv := by
      unfold putK
      rw [valV_any, e2]; rfl
    refine ⟨_, _, rfl, ?_, by rw [e3]; exact dsetv_ok r h⟩
    rw [e3, List.map_map]
    refine List.map_congr_left fun kv _ => ?_
    show _ = kD (if kv.1 = Sum.inl n then (kv.1, v) else kv).1
    split <;> rfl
/-- a dict that is looked into -/
theorem dic_at {d : D} {x : V} {ks us : List D} (w : Wf K g H st) (r : RB K g H d x) (e : dicOf d = some (ks, us)) :
    ∃ a kvs, x = .ref a ∧ ks = kvs.map (fun p => kD p.1) ∧ ∀ g' H', Step g H g' H' → Rd H' a (.dK kvs) ∧ RVs K g' H' us (kvs.map (·.2)) := by
  cases d <;> cases e
  · obtain ⟨a, kvs, e1, hn, h1, h2, h3⟩ := r
    exact ⟨a, kvs, e1, h2, fun g' H' s => ⟨.inl (s.kp a _ h1 hn), h3.stp (s.stp w)⟩⟩
  · obtain ⟨a, kvs, e1, hF, ⟨o, h1⟩, h2, h3⟩ := r
    exact ⟨a, kvs, e1, h2, fun g' H' s => ⟨.inr ⟨o, s.kp a _ h1 fun z => w.nF a z hF⟩, h3.stp (s.stp w)⟩⟩
end
section
variable {X : Cx} {S : Sg} {pos apos : Pos} {pa pb pc : Expr} {a b c : E}
theorem e_dgd (hu : X.A.units + 1 < cLine) (ha : PE X pa (tB S a)) (hb : PE X pb (tB S b)) (hc : PE X pc (tF S c)) (m : M2 X pa "get" apos pb pc pos) : PE X (.Call (.Attribute pa "get" apos) [pb, pc] [] pos) (tF S (.dgd a b c)) := by
  refine (pe_dget2 hu ha hb hc m).mono fun σ H Q ⟨g, st, env, at_, h⟩ => ?_
  simp only [evE] at h
  refine tE_imp (lem1 (rel1 := rB S.K) at_ up_F h) fun x H1 ⟨g1, st1, d, a1, r1, h1⟩ => ?_
  cases ed : dicOf d with
  | none => rw [ed] at h1; exact h1.elim
  | some p =>
    obtain ⟨ks, us⟩ := p
    rw [ed] at h1
    obtain ⟨p, kvs, rfl, hk, hs⟩ := dic_at a1.2.1 r1 ed
    refine ⟨p, rfl, .inl ⟨kvs, (hs _ _ (Step.refl _ _)).1⟩, g1, st1, env, a1, (Post.bind (rel1 := rB S.K) up_F h1).mono fun g' H' d v st' s w r q => ?_⟩
    obtain ⟨g2, st2, d2, s2, w2, r2, h2⟩ := q g' H' v s w r
    refine ⟨g2, st2, env, a1.step s2 w2, (Post.bind (rel1 := rF S.K) up_F h2).mono fun g'' H'' d' v' st'' s' w' r' q' => ?_⟩
    obtain ⟨g3, st3, d3, s3, w3, r3, h3⟩ := q' g'' H'' v' s' w' r'
    cases d2 <;> try exact h3.elim
    rename_i n
    cases r2
    obtain ⟨e1, e2⟩ := hs _ _ (s2.trans s3)
    refine ⟨_, .inl ⟨kvs, .inl n, e1, rfl, rfl⟩, h3 g3 H'' _ (Step.refl _ _) w3 ?_⟩
    show RV S.K g3 H'' ((dfind ks us n).getD d3) _
    rw [hk]
    rcases dfind_ok (n := n) e2 with ⟨f1, f2⟩ | ⟨d', u, f1, f2, f3⟩
    · rw [f1, f2]; exact r3
    · rw [f1, f2]; exact f3
theorem plain_NoSl {i : Expr} (h : plainSub i = true) : NoSl i := fun ov iv => by
  cases i <;> first | rfl | cases h
theorem e_dix (hu : X.A.units + 1 < cLine) (hp : plainSub pb = true) (ha : PE X pa (tB S a)) (hb : PE X pb (tB S b)) : PE X (.Subscript pa pb pos) (tF S (.dix a b)) := by
  refine (pe_dget hu ha hb (plain_NoSl hp)).mono fun σ H Q ⟨g, st, env, at_, h⟩ => ?_
  simp only [evE] at h
  refine tE_imp (lem1 (rel1 := rB S.K) at_ up_F h) fun x H1 ⟨g1, st1, d, a1, r1, h1⟩ => ?_
  cases ed : dicOf d with
  | none => rw [ed] at h1; exact h1.elim
  | some p =>
    obtain ⟨ks, us⟩ := p
    rw [ed] at h1
    obtain ⟨p, kvs, rfl, hk, hs⟩ := dic_at a1.2.1 r1 ed
    refine ⟨g1, st1, env, a1, (Post.bind (rel1 := rB S.K) up_F h1).mono fun g' H' d v st' s w r q => ?_⟩
    obtain ⟨g2, st2, d2, s2, w2, r2, h2⟩ := q g' H' v s w r
    cases d2 <;> try exact h2.elim
    rename_i n
    cases r2
    obtain ⟨e1, e2⟩ := hs _ _ s2
    have h2 : Post S σ g2 H' (R.of (dfind ks us n) st2) (rF S.K) Q := h2
    rw [hk] at h2
    rcases dfind_ok (n := n) e2 with ⟨f1, f2⟩ | ⟨d', u, f1, f2, f3⟩
    · rw [f1] at h2; exact h2.elim
    · rw [f1] at h2
      exact ⟨p, u, rfl, .inl ⟨kvs, .inl n, e1, rfl, f2.symm⟩, h2 g2 H' _ (Step.refl _ _) w2 f3⟩
end
/-! ### a name's own dict -/
section
variable {X : Cx} {S : Sg} {pos : Pos} {pa pb : Expr} {a b : E}
theorem own_slotD {K : PySem.W.Frag} {g : Gh} {H0 H : Hp} {env : Ev} {σ : Sl} {ow : Nat → List Addr} (r : EnvR K g H0 H env σ ow) {i : Nat} {ks us : List D} (e : env[i]? = some (.ownD ks us)) :
    ∃ p kvs, σ[i]? = some (some (.ref p)) ∧ H p = some (.dK kvs) ∧ ks = kvs.map (fun p => kD p.1) ∧ RVs K g H us (kvs.map (·.2)) ∧ ow i = [p] := by
  rcases r.sl i _ e with z | ⟨v, e1, z⟩
  · cases z.1
  · obtain ⟨p, vs, rfl, h1, h2, h3, h4⟩ := z
    exact ⟨p, vs, e1, h1, h2, h3, h4⟩
theorem EnvR.updD {K : PySem.W.Frag} {g : Gh} {H0 H : Hp} {env : Ev} {σ : Sl} {ow : Nat → List Addr} (r : EnvR K g H0 H env σ ow) {i : Nat} {w' : W} {v : V} {p : Addr} {kvs : List (Key × V)} {o : HO} (hi : i < env.length) (hp : p ∈ ow i) (e : H p = some (.dK kvs)) (hv : σ[i]? = some (some v))
    (h : RW K g (upd H p o) w' v (ow i)) : EnvR K g H0 (upd H p o) (env.set i w') σ ow where
  len := by simp [r.len]
  sl := fun j x ej => by
    by_cases hj : j = i
    · subst hj
      rw [List.getElem?_set_self hi] at ej
      cases ej
      exact .inr ⟨v, hv, h⟩
    · rw [List.getElem?_set_ne (Ne.symm hj)] at ej
      rcases r.sl j x ej with z | ⟨u, e1, z⟩
      · exact .inl z
      · refine .inr ⟨u, e1, z.stp (Stp.rew (r.own i p hp).1 e) fun b hb q eb => ?_⟩
        rw [upd_ne (fun z => hj (r.dj j i p (by rw [← z]; exact hb) hp))]; exact eb
  nd := r.nd
  dj := r.dj
  own := r.own
  out := fun j hj => r.out j (by simpa using hj)
theorem At.updD {σ : Sl} {H : Hp} {g : Gh} {st : Store} {env : Ev} {ow : Nat → List Addr} (s : Step S.g0 S.H0 g H) (w : Wf S.K g H st) (r : EnvR S.K g S.H0 H env σ ow) {i : Nat} {w' : W} {v : V} {p : Addr} {kvs : List (Key × V)} {o : HO} (hi : i < env.length) (hp : p ∈ ow i) (e : H p = some (.dK kvs)) (hv : σ[i]? = some (some v))
    (h : RW S.K g (upd H p o) w' v (ow i)) : At S σ (upd H p o) g st (env.set i w') ∧ Stp g H g (upd H p o) :=
  ⟨⟨s.rew (r.own i p hp).2.2, w.rew (r.own i p hp).1 (r.own i p hp).2.1 e, ow, r.updD hi hp e hv h⟩, Stp.rew (r.own i p hp).1 e⟩
theorem sw_sub1 {pe o i : Expr} {p : Pos} {l : Nat} {env : Env} : swapsWith pe (some (.Subscript o i p)) l env = pure false := by
  cases pe <;> rfl
/-- name[k] = e, of a name's own dict -/
theorem s_putD {i : Nat} {x : Str} {px ps : Pos} (hu : X.A.units + 1 < cLine) (hN : X.N[i]? = some x) (hv : Vis X.env.scope x) (hd : (x == ("__debug__" : Str)) = false) (hcd : (x == ("__classdict__" : Str)) = false)
    (he : PE X pa (tF S a)) (hk : PE X pb (tF S b)) : PS X (.Assign [.Subscript (.Name x px) pb ps] pa pos) (tS S (.putD i b a)) := by
  refine (ps_dput hu (pe_var hN hv hd hcd) hk he sw_sub1).mono fun D σ H ⟨g, st, env, at_, h⟩ => ?_
  simp only [evS] at h
  refine tE_imp (lemS1 (rel1 := rF S.K) at_ h) fun v H1 ⟨g1, st1, d1, a1, r1, h1⟩ => ?_
  split at h1
  · rename_i ks us e
    obtain ⟨_, _, ow, er⟩ := id a1
    obtain ⟨p, kvs, e1, e2, e3, e4, e5⟩ := own_slotD er e
    refine ⟨_, e1, tE_imp (lemS2 (rel1 := rF S.K) a1 h1) fun y H2 ⟨g2, st2, d2, ss, a2, r2, h2⟩ => ?_⟩
    cases d2 <;> try exact h2.elim
    rename_i n
    cases r2
    obtain ⟨s2, w2, ow2, er2⟩ := id a2
    obtain ⟨p', kvs', e1', e2', e3', e4', e5'⟩ := own_slotD er2 e
    rw [e1] at e1'; cases e1'
    by_cases hl : ks.length < lim
    · simp only [if_pos hl] at h2
      have hpo : p ∈ ow2 i := by rw [e5']; simp
      have hlen : kvs'.length < sizeLine := by
        have : ks.length = kvs'.length := by rw [e3', List.length_map]
        have l2 : lim = 1000000 := rfl
        have l3 := sizeLine_eq
        omega
      have hst : Stp g2 H2 g2 (upd H2 p (.dK (putK kvs' (.inl n) v))) := Stp.rew (er2.own i p hpo).1 e2'
      subst e3'
      obtain ⟨ks2, us2, f1, f2, f3⟩ := dput_ok (n := n) (RV.stp hst (RV.stp (ss.stp a1.2.1) r1)) (e4'.stp hst)
      rw [f1] at h2
      obtain ⟨q1, q2⟩ := At.updD (o := .dK (putK kvs' (.inl n) v)) s2 w2 er2 (lt_of_get e) hpo e2' e1 (w' := .ownD ks2 us2) ⟨p, _, rfl, upd_same, f2, f3, e5'⟩
      exact ⟨p, _, rfl, DPut.k (k := .inl n) e2' hlen, h2 g2 _ σ q2 q1⟩
    · simp only [if_neg hl] at h2; exact h2.elim
  · exact h1.elim
theorem pss_lock {Ps : List Stmt} {t : TS} (h : PSs X Ps t) : PSs X Ps (fun D σ H => ∃ d u, H d = some u ∧ Mut (some u) ∧ ∀ od, t D σ (upd H d (.frz od u))) := by
  refine ⟨fun pins s σ H D I hw => ?_⟩
  obtain ⟨d, u, hd, mu, hw⟩ := hw
  obtain ⟨od, I1⟩ := I.lock hd mu
  exact h.run pins s σ _ D I1 (hw od)
/-- a slot's dict is locked for good: nothing happens -/
theorem ss_lockD {Ps : List Stmt} {i : Nat} {ss : List DD.S} (h2 : PSs X Ps (tSs S ss)) : PSs X Ps (tSs S (.lockD i :: ss)) := by
  refine (pss_lock h2).mono fun D σ H ⟨g, st, env, at_, h⟩ => ?_
  simp only [evSs, evS, setSlot] at h
  cases e : env[i]? with
  | none => rw [e] at h; exact h.elim
  | some w =>
    rw [e] at h
    cases w <;> try exact h.elim
    rename_i ks us
    simp only [lockW, R.bind_ok] at h
    obtain ⟨s, wf, ow, er⟩ := at_
    obtain ⟨p, kvs, e1, e2, e3, e4, e5⟩ := own_slotD er e
    have hpo : p ∈ ow i := by rw [e5]; simp
    refine ⟨p, .dK kvs, e2, trivial, fun od => ?_⟩
    have t1 : Stp g H g (upd H p (.frz od (.dK kvs))) := Stp.rew (er.own i p hpo).1 e2
    have hst : Stp g H (g.more [p]) (upd H p (.frz od (.dK kvs))) := t1.trans Stp.more
    have w1 : Wf S.K g (upd H p (.frz od (.dK kvs))) st := wf.rew (er.own i p hpo).1 (er.own i p hpo).2.1 e2
    refine ⟨g.more [p], st, env.set i (.fz (.ldic ks us)), ⟨(s.rew (er.own i p hpo).2.2).more fun a ha => ?_, w1.more (fun a ha => ?_) fun a ha => ?_, fun j => if j = i then [] else ow j, ?_⟩, PostS.stp hst h⟩
    · rw [List.mem_singleton.mp ha]; exact (er.own i p hpo).2.2
    · rw [List.mem_singleton.mp ha]; exact ⟨_, upd_same⟩
    · rw [List.mem_singleton.mp ha]; exact (er.own i p hpo).2.1
    refine ⟨by simp [er.len], fun j x ej => ?_, fun j => ?_, fun j k a h1 h2 => ?_, fun j a ha => ?_, fun j hj => ?_⟩
    · by_cases hj : j = i
      · subst hj
        rw [List.getElem?_set_self (lt_of_get e)] at ej; cases ej
        exact .inr ⟨.ref p, e1, ⟨p, kvs, rfl, .inr (by simp), ⟨od, upd_same⟩, e3, e4.stp hst⟩, by simp⟩
      · rw [List.getElem?_set_ne (Ne.symm hj)] at ej
        rw [if_neg hj]
        rcases er.sl j x ej with q | ⟨u, f2, q⟩
        · exact .inl q
        · refine .inr ⟨u, f2, q.stp hst fun b hb o eb => ?_⟩
          rw [upd_ne (fun z => hj (er.dj j i p (by rw [← z]; exact hb) hpo))]; exact eb
    · by_cases hj : j = i
      · rw [if_pos hj]; exact List.nodup_nil
      · rw [if_neg hj]; exact er.nd j
    · by_cases hj : j = i
      · rw [if_pos hj] at h1; cases h1
      · by_cases hk : k = i
        · rw [if_pos hk] at h2; cases h2
        · rw [if_neg hj] at h1; rw [if_neg hk] at h2; exact er.dj j k a h1 h2
    · by_cases hj : j = i
      · rw [if_pos hj] at ha; cases ha
      · rw [if_neg hj] at ha
        obtain ⟨q1, q2, q3⟩ := er.own j a ha
        refine ⟨fun q => ?_, q2, q3⟩
        rcases q with q | q
        · exact q1 q
        · rw [List.mem_singleton.mp q] at ha
          exact hj (er.dj j i p ha hpo)
    · rw [List.length_set] at hj
      by_cases hji : j = i
      · rw [if_pos hji]
      · rw [if_neg hji]; exact er.out j hj
end
/-! ### min(list, default=None), of pairs of tuples of ints -/
abbrev TwT : Type := PySem.W.Tup Int × PySem.W.Tup Int
def pT (p : List Int × List Int) : TwT := (⟨p.1⟩, ⟨p.2⟩)
theorem toP_ints : ∀ xs : List Int, toPs (xs.map .int) = xs.map PySem.W.Datum.toD
  | [] => rfl
  | x :: xs => by rw [List.map_cons, List.map_cons, toPs, toP_ints xs]; rfl
theorem toP_prD (p : List Int × List Int) : toP (DD.prD p) = PySem.W.Datum.toD (pT p) := by
  show PyData.tuple [.tuple (toPs (p.1.map .int)), .tuple (toPs (p.2.map .int))] = _
  rw [toP_ints, toP_ints]; rfl
theorem isPr_eq {d : D} {p : List Int × List Int} (h : isPr d = some p) : d = DD.prD p := by
  unfold isPr at h
  split at h
  · rename_i a b
    cases e1 : intsOf a with
    | none => rw [e1] at h; cases h
    | some x =>
      cases e2 : intsOf b with
      | none => rw [e1, e2] at h; cases h
      | some y =>
        rw [e1, e2] at h
        cases h
        rw [intsOf_eq e1, intsOf_eq e2]; rfl
  · cases h
theorem prsOf_eq : ∀ {ds : List D} {ps : List (List Int × List Int)}, prsOf ds = some ps → ds = ps.map DD.prD
  | [], _, h => by cases h; rfl
  | d :: ds, ps, h => by
    unfold prsOf at h
    cases e1 : isPr d with
    | none => rw [e1] at h; cases h
    | some p =>
      cases e2 : prsOf ds with
      | none => rw [e1, e2] at h; cases h
      | some qs =>
        rw [e1, e2] at h
        cases h
        rw [isPr_eq e1, prsOf_eq e2]; rfl
theorem ltInts_list : ∀ xs ys : List Int, PySem.W.listLt xs ys = ltInts xs ys
  | [], [] => rfl
  | [], _ :: _ => rfl
  | _ :: _, [] => rfl
  | x :: xs, y :: ys => by
    unfold PySem.W.listLt ltInts
    rw [ltInts_list xs ys]; rfl
theorem pT_inj {p q : List Int × List Int} (h : pT p = pT q) : p = q := by
  obtain ⟨a, b⟩ := p
  obtain ⟨c, d⟩ := q
  have h1 : (⟨a⟩ : PySem.W.Tup Int) = ⟨c⟩ := congrArg Prod.fst h
  have h2 : (⟨b⟩ : PySem.W.Tup Int) = ⟨d⟩ := congrArg Prod.snd h
  cases h1; cases h2; rfl
theorem ltPr_eq (p q : List Int × List Int) : PySem.W.DatumOrd.lt (pT p) (pT q) = ltPr p q := by
  show (if (pT p).1 = (pT q).1 then PySem.W.listLt p.2 q.2 else PySem.W.listLt p.1 q.1) = _
  unfold ltPr
  rw [ltInts_list, ltInts_list]
  by_cases h : p.1 = q.1
  · rw [if_pos h, if_pos (show (pT p).1 = (pT q).1 by unfold pT; rw [h])]
  · rw [if_neg h, if_neg (show ¬ (pT p).1 = (pT q).1 from fun e => h (by cases p; cases q; injection e))]
theorem minPr_eq : ∀ (ps : List (List Int × List Int)) (p : List Int × List Int), PySem.W.minOf (pT p) (ps.map pT) = pT (minPr p ps)
  | [], _ => rfl
  | q :: ps, p => by
    have := minPr_eq ps (if ltPr q p then q else p)
    unfold PySem.W.minOf at this ⊢
    rw [List.map_cons, List.foldl_cons, ltPr_eq, minPr, ← this]
    congr 1
    cases ltPr q p <;> rfl
theorem toD_inj {p q : TwT} (h : PySem.W.Datum.toD p = PySem.W.Datum.toD q) : p = q := by
  have e1 := PySem.W.Datum.eqv p q
  have e2 := PySem.W.Datum.eqv q q
  rw [h, e2, decide_eq_true rfl] at e1
  exact of_decide_eq_true e1.symm
theorem shal_prD (p : List Int × List Int) : shal 4 (DD.prD p) = true := by
  have : ∀ xs : List Int, (xs.map D.int).all (shal 2) = true := fun xs => by
    rw [List.all_map, List.all_eq_true]
    intro x _; rfl
  show ([D.tup (p.1.map .int), D.tup (p.2.map .int)].all (shal 3)) = true
  simp only [List.all_cons, List.all_nil, Bool.and_true, Bool.and_eq_true]
  exact ⟨this p.1, this p.2⟩
def rMinDf (K : PySem.W.Frag) : List V → List V → Hp → VK → Prop := fun xs zs H Q => ∃ g st d x, xs = [x] ∧ zs = [.non] ∧ Wf K g H st ∧ RB K g H d x ∧ Gives K g H st (minDf d) Q
section
variable {X : Cx}
theorem call_min_df (hc : X.calm = true) (hu : X.A.units + 65 < cLine) : CallRK X (.builtin "min") [Str.ofString "default"] (rMinDf X.K) := by
  intro pins s σ H xs zs us ws Q I r rz h
  obtain ⟨g, st, d, x, rfl, rfl, w, hx, q⟩ := h
  cases d <;> first | exact Gives.no q | skip
  rename_i ds
  obtain ⟨a, vs, rfl, _, ha, hv⟩ := hx
  cases e : prsOf ds with
  | none => simp only [minDf, e] at q; exact Gives.no q
  | some ps =>
    have := prsOf_eq e; subst this
    obtain ⟨its, rv, hl, hz⟩ := I.list (show SqL X.K H a vs from .inl (.inl ha))
    rw [Vals.ref1 r]
    have hw : ws = [Value.none] := by
      cases rz with
      | cons h1 h2 => cases h2; rw [show _ = Value.none from h1]
    subst hw
    have hd : DpAll X.K H vs (toPs (ps.map DD.prD)) := RVs.dp (n := 4) (fun x hm => by
      obtain ⟨y, _, rfl⟩ := List.mem_map.mp hm
      exact shal_prD y) hv
    obtain ⟨as, hr⟩ := Dp.readsAll I _ _ _ hd rv
    have et : toPs (ps.map DD.prD) = (ps.map pT).map PySem.W.Datum.toD := by
      rw [toPs_map, List.map_map, List.map_map]
      exact List.map_congr_left fun p _ => toP_prD p
    rw [et] at hr
    refine PySem.W.min_list_default (d := Value.none) (xs := (ps.map pT).map PySem.W.Datum.toD) (as := as) (I.ok.hd hc) hl.isList (by simpa using hr) (PySem.W.alikeAll_datum _) ?_ (fun e2 h' tk hk => ?_) fun y ys i v h' tk bs e2 hv' hrd hk => ?_
    · refine PySem.W.room_all (PySem.W.depthAll_map (ps.map pT)) ?_
      have : PySem.W.Datum.depth TwT ≤ 60 := by decide
      show X.A.units + 1 + PySem.W.Datum.depth TwT < cLine
      omega
    · cases ps with
      | cons p ps => cases e2
      | nil =>
        obtain ⟨d', ed, q'⟩ := q
        simp only [minDf, e] at ed
        cases ed
        exact ⟨.non, H, I.kept hk, rfl, q' g H .non (Step.refl _ _) w rfl⟩
    · cases ps with
      | nil => cases e2
      | cons p ps =>
        rw [List.map_cons, List.map_cons] at e2
        injection e2 with f1 f2
        subst f1 f2
        rw [PySem.W.minD_map, minPr_eq] at hrd
        obtain ⟨v', e1, e2⟩ : ∃ v', vs[i]? = some v' ∧ RelV v' v := by
          have hi : its[i]? = some v := by simpa using hv'
          have hl : i < vs.length := by rw [rv.length]; exact (List.getElem?_eq_some_iff.mp hi).1
          obtain ⟨u, e1, e2⟩ := rv.get (List.getElem?_eq_getElem hl)
          rw [hi] at e1
          cases e1
          exact ⟨_, List.getElem?_eq_getElem hl, e2⟩
        obtain ⟨d, f1, f2⟩ := hv.get' e1
        rw [List.getElem?_map] at f1
        obtain ⟨y, f3, rfl⟩ := Option.map_eq_some_iff.mp f1
        obtain ⟨bs', hrd'⟩ := Dp.reads (I.kept (t' := tk) hk) _ _ _ (RV.dp (n := 4) (shal_prD y) f2) e2
        obtain ⟨e4, _⟩ := PyProof.Rows.reads_det (fun _ _ e _ => e) hrd hrd'
        rw [toP_prD] at e4
        have e5 := pT_inj (toD_inj e4)
        obtain ⟨d', ed, q'⟩ := q
        simp only [minDf, e] at ed
        cases ed
        refine ⟨v', H, I.kept hk, e2, q' g H v' (Step.refl _ _) w ?_⟩
        rw [← e5]
        exact f2
end
section
variable {S : Sg} {X : Cx} {pa : Expr} {a : E} {pos : Pos}
theorem e_mnd {k : Nat} {p p2 kpos : Pos} (hc : X.calm = true) (hu : X.A.units + 65 < cLine) (hK : X.K = S.K) (hg : Gl X "min") (hm : X.mg "min" = none) (hs : notStar pa = true) (ha : PE X pa (tB S a)) :
    PE X (.Call (.Name "min" p) [pa] [⟨some (Str.ofString "default"), .Constant .none k p2, kpos⟩] pos) (tN S (.mnd a)) := by
  refine (pe_callBK (call_min_df hc hu) hg hm (by decide +kernel) (PA1 hs ha) (pk_cons pe_non pk_nil) (by decide) (by decide) (by rw [star_cons hs]; rfl) (by rw [star_cons hs]; rfl)).mono fun σ H Q ⟨g, st, env, at_, h⟩ => ?_
  refine tE_imp (lem1 (rel1 := rB S.K) (f := fun x st => R.of (minDf x) st) at_ up_N h) fun x H1 ⟨g, st, d, a1, r, h1⟩ => ?_
  rw [hK]
  exact ⟨g, st, d, x, rfl, rfl, a1.2.1, r, h1.gives⟩
end
end DDS

set_option Elab.async false
set_option linter.all false
set_option maxRecDepth 100000
set_option maxHeartbeats 2000000
namespace DDS
open PySem PySem.Spec PyProof.Rows L2 DD
/-! ### a text is a term -/
def visB (sc : Scope) (x : Str) : Bool := match sc.names.lookup x with
  | some .local => true
  | some .cell => true
  | some .free => true
  | _ => false
def locB (sc : Scope) (x : Str) : Bool := match sc.names.lookup x with
  | some .local => true
  | some .cell => true
  | _ => false
def glB (sc : Scope) (x : Str) : Bool := decide (sc.names.lookup x = some .globalImplicit)
def nmB (x : Str) : Bool := !(x == ("__debug__" : Str)) && !(x == ("__classdict__" : Str))
mutual
def beqD : D → D → Bool
  | .non, .non => true
  | .bool a, .bool b => a == b
  | .int a, .int b => decide (a = b)
  | .str a, .str b => decide (a = b)
  | .tup a, .tup b => beqDs a b
  | _, _ => false
def beqDs : List D → List D → Bool
  | [], [] => true
  | a :: as, b :: bs => beqD a b && beqDs as bs
  | _, _ => false
end
mutual
theorem beqD_eq : ∀ {a b : D}, beqD a b = true → a = b
  | .non, b, h => by cases b <;> simp [beqD] at h <;> rfl
  | .bool a, b, h => by cases b <;> simp [beqD] at h; rw [h]
  | .int a, b, h => by cases b <;> simp [beqD] at h; rw [h]
  | .str a, b, h => by cases b <;> simp [beqD] at h; rw [h]
  | .tup a, b, h => by
    cases b <;> simp [beqD] at h
    rw [beqDs_eq h]
  | .lst a, b, h => by cases b <;> simp [beqD] at h
  | .dic a c, b, h => by cases b <;> simp [beqD] at h
  | .ldic a c, b, h => by cases b <;> simp [beqD] at h
  | .ref a, b, h => by cases b <;> simp [beqD] at h
  | .scr a, b, h => by cases b <;> simp [beqD] at h
theorem beqDs_eq : ∀ {a b : List D}, beqDs a b = true → a = b
  | [], [], _ => rfl
  | [], _ :: _, h => by simp [beqDs] at h
  | _ :: _, [], h => by simp [beqDs] at h
  | a :: as, b :: bs, h => by
    rw [beqDs, Bool.and_eq_true] at h
    rw [beqD_eq h.1, beqDs_eq h.2]
end
/-- a constant -/
def cstB : D → Const → Bool
  | .non, .none => true
  | .bool a, .bool b => a == b
  | .int a, .int b => decide (a = b)
  | .str a, .str b => decide (a = b)
  | _, _ => false
/-- what a text may lean on: the defs' names, the classes' names, the constants -/
structure Tx where
  fns : List Str
  cls : List Str
  glos : List (Str × D)
  /-- the def of the words of exceptions, if there is one, and the words by the classes -/
  kin : Option (Nat × List Str) := none
def isR1 : I → Bool
  | .r1 _ => true
  | _ => false
def bi1S : Bi → Option String
  | .len => some "len"
  | .abs => some "abs"
  | .min1 => some "min"
  | .minp => some "min"
  | .max1 => some "max"
  | .sum => some "sum"
  | .all => some "all"
  | .int => some "int"
  | .list => some "list"
  | .tuple => some "tuple"
  | .sorted => some "sorted"
  | .str => some "str"
  | .sortedw => some "sorted"
  | _ => none
def isSset : Bi → Bool
  | .sortedset => true
  | _ => false
def bi2S : Bi → Option String
  | .min2 => some "min"
  | .max2 => some "max"
  | _ => none
/-- a name of the built-ins, free in the module -/
def bltB (sc : Scope) (x : Str) (s : String) : Bool := decide (x = Str.ofString s) && glB sc x
def noKw (ks : List Keyword) : Bool := ks.isEmpty
mutual
def ckT (N : List Str) (sc : Scope) : T → Expr → Bool
  | .nm i, e => match e with
    | .Name x _ => decide (N[i]? = some x) && locB sc x
    | _ => false
  | .tp ts, e => match e with
    | .Tuple es _ _ => ckTs N sc ts es
    | _ => false
def ckTs (N : List Str) (sc : Scope) : List T → List Expr → Bool
  | [], es => es.isEmpty
  | t :: ts, es => match es with
    | e :: es => notStar e && ckT N sc t e && ckTs N sc ts es
    | [] => false
end
def isNm : Expr → Bool
  | .Name _ _ => true
  | _ => false
def isSb : Expr → Bool
  | .Subscript _ _ _ => true
  | _ => false
def isCs : Expr → Bool
  | .Constant _ _ _ => true
  | _ => false
def isTup : Expr → Bool
  | .Tuple _ _ _ => true
  | _ => false
/-- no name that is lent -/
def noB : E → Bool
  | .varB _ => false
  | .orv _ _ => false
  | _ => true
def noBs : List E → Bool
  | [] => true
  | e :: es => noB e && noBs es
/-- a test of a plain form -/
def noIf : Expr → Bool
  | .IfExp _ _ _ _ => false
  | _ => true
/-- the names of the defs -/
def ckNms (tx : Tx) (sc : Scope) : List Nat → List Expr → Bool
  | [], ns => ns.isEmpty
  | f :: fs, ns => match ns with
    | n :: ns => (match n with | .Name x _ => decide (tx.fns[f]? = some x) && glB sc x && nmB x | _ => false) && ckNms tx sc fs ns
    | [] => false
section
variable (tx : Tx) (N : List Str)
mutual
def ckE (sc : Scope) : E → Expr → Bool
  | .var i, e => match e with
    | .Name x _ => decide (N[i]? = some x) && visB sc x && nmB x
    | _ => false
  | .varB i, e => match e with
    | .Name x _ => decide (N[i]? = some x) && visB sc x && nmB x
    | _ => false
  | .cst d, e => match e with
    | .Constant c _ _ => cstB d c
    | _ => false
  | .glo x d, e => match e with
    | .Name y _ => decide (x = y) && glB sc x && nmB x && tx.glos.any fun p => decide (p.1 = x) && beqD p.2 d
    | _ => false
  | .bin o a b, e => match e with
    | .BinOp pa op pb _ => decide (op = bopP o) && ckE sc a pa && ckE sc b pb
    | _ => false
  | .neg a, e => match e with
    | .UnaryOp op pa _ => decide (op = .USub) && ckE sc a pa && noB a
    | _ => false
  | .not a, e => match e with
    | .UnaryOp op pa _ => decide (op = .Not) && ckE sc a pa && noB a && noIf pa
    | _ => false
  | .and a b, e => match e with
    | .BoolOp op vs p => decide (op = .And) && match vs with
      | [pa, pb] => ckE sc a pa && noB a && noIf pa && ckE sc b pb && noB b && noIf pb
      | pa :: pb :: pc :: rest => ckE sc a pa && noB a && noIf pa && ckE sc b (.BoolOp .And (pb :: pc :: rest) p) && noB b
      | _ => false
    | _ => false
  | .or a b, e => match e with
    | .BoolOp op vs p => decide (op = .Or) && match vs with
      | [pa, pb] => ckE sc a pa && noB a && noIf pa && ckE sc b pb && noB b && noIf pb
      | pa :: pb :: pc :: rest => ckE sc a pa && noB a && noIf pa && ckE sc b (.BoolOp .Or (pb :: pc :: rest) p) && noB b
      | _ => false
    | _ => false
  | .cmp o a b, e => match e with
    | .Compare pa ops ps _ => match ops, ps with
      | [op], [pb] => decide (op = copP o) && !behindInMarks op pb && ckE sc a pa && ckE sc b pb
      | _, _ => false
    | _ => false
  | .isd a d pos, e => match e with
    | .Compare pa ops ps _ => match ops, ps with
      | [op], [.Constant c _ _] => decide (op = if pos then .Is else .IsNot) && cstB d c && (match d with | .non => true | .bool _ => true | _ => false) && ckE sc a pa
      | _, _ => false
    | _ => false
  | .chain o p a b c, e => match e with
    | .Compare pa ops ps _ => match ops, ps with
      | [op, op2], [pb, pc] => decide (op = copP o) && decide (op2 = copP p) && !lastMarks [op, op2] [pb, pc] && ckE sc a pa && ckE sc b pb && ckE sc c pc
      | _, _ => false
    | _ => false
  | .ite c a b, e => match e with
    | .IfExp pc pa pb _ => ckE sc c pc && noB c && noIf pc && ckE sc a pa && noB a && ckE sc b pb && noB b
    | _ => false
  | .tup es, e => match e with
    | .Tuple ps _ _ => ckEs sc es ps && noBs es
    | _ => false
  | .lst es, e => match e with
    | .List ps _ => ckEs sc es ps && noBs es
    | _ => false
  | .dic0, e => match e with
    | .Dict ks vs _ => ks.isEmpty && vs.isEmpty
    | _ => false
  | .idx a b, e => match e with
    | .Subscript pa pb _ => plainSub pb && ckE sc a pa && ckE sc b pb
    | _ => false
  | .idxC a b, e => match e with
    | .Subscript pa pb _ => plainSub pb && ckE sc a pa && ckE sc b pb
    | _ => false
  | .popC a b, e => match e with
    | .Call (.Attribute pa x apos) [pb] [] pos => decide (x = ("pop" : Str)) && isNm pa && notStar pb && decide (apos.endLine = pos.line) && ckE sc a pa && ckE sc b pb
    | _ => false
  | .lenC a, e => match e with
    | .Call (.Name x _) [pa] ks _ => noKw ks && bltB sc x "len" && notStar pa && ckE sc a pa
    | _ => false
  | .idx2 i a b, e => match e with
    | .Subscript (.Subscript (.Name x _) pa _) pb _ => decide (N[i]? = some x) && visB sc x && nmB x && plainSub pa && plainSub pb && ckE sc a pa && ckE sc b pb
    | _ => false
  | .orv a b, e => match e with
    | .BoolOp op vs _ => decide (op = .Or) && match vs with
      | [pa, pb] => ckE sc a pa && noB a && ckE sc b pb && noB b
      | _ => false
    | _ => false
  | .sl a b c, e => match e with
    | .Subscript pa (.Slice (some pb) (some pc) none _) _ => ckE sc a pa && ckE sc b pb && ckE sc c pc
    | _ => false
  | .slF a b, e => match e with
    | .Subscript pa (.Slice (some pb) none none _) _ => ckE sc a pa && ckE sc b pb
    | _ => false
  | .slT a b, e => match e with
    | .Subscript pa (.Slice none (some pb) none _) _ => ckE sc a pa && ckE sc b pb
    | _ => false
  | .rev a, e => match e with
    | .Subscript pa (.Slice none none (some (.UnaryOp .USub (.Constant (.int 1) _ _) _)) _) _ => ckE sc a pa
    | _ => false
  | .call f es, e => match e with
    | .Call (.Name x _) ps ks _ => noKw ks && decide (tx.fns[f]? = some x) && glB sc x && nmB x && ckEs sc es ps && noBs es
    | _ => false
  | .callB f es, e => match e with
    | .Call (.Name x _) ps ks _ => noKw ks && decide (tx.fns[f]? = some x) && glB sc x && nmB x && !ps.isEmpty && ckEs sc es ps
    | _ => false
  | .sel fs k es, e => match e with
    | .Call (.Subscript (.List ns _) pk _) (pa :: pes) ks _ => noKw ks && ckNms tx sc fs ns && decide (fs.length ≤ 100) && plainSub pk && ckE sc k pk && ckEs sc es (pa :: pes) && noBs es
    | _ => false
  | .b1 bi a, e => match e with
    | .Call (.Name x _) [pa] ks _ => noKw ks && (match bi1S bi with
      | some s => bltB sc x s && notStar pa && ckE sc a pa
      | none => match pa with
        | .Call (.Name y _) [pb] ks2 _ => isSset bi && bltB sc x "sorted" && bltB sc y "set" && noKw ks2 && notStar pb && ckE sc a pb
        | _ => false)
    | _ => false
  | .b2 bi a b, e => match e with
    | .Call (.Name x _) [pa, pb] ks _ => noKw ks && (match bi2S bi with | some s => bltB sc x s | none => false) && notStar pa && notStar pb && ckE sc a pa && ckE sc b pb
    | _ => false
  | .lof it, e => match e with
    | .Call (.Name x _) [pi] ks _ => noKw ks && bltB sc x "list" && isR1 it && ckI sc false false it pi
    | _ => false
  | .isi a ts, e => match e with
    | .Call (.Name x _) ps ks _ => noKw ks && bltB sc x "isinstance" && match ts, ps with
      | [t], [pa, .Name y _] => bltB sc y (tyP t) && notStar pa && ckE sc a pa
      | [t, u], [pa, .Tuple [.Name y _, .Name z _] _ _] => bltB sc y (tyP t) && bltB sc z (tyP u) && notStar pa && ckE sc a pa
      | _, _ => false
    | _ => false
  | .m0 m a, e => match e with
    | .Call (.Attribute pa x apos) [] [] pos => (match m with | .upper => decide (x = ("upper" : Str)) | _ => false) && isNm pa && decide (apos.endLine = pos.line) && ckE sc a pa
    | _ => false
  | .m1 m a b, e => match e with
    | .Call (.Attribute pa x apos) [pb] [] pos => (match m with | .index => decide (x = ("index" : Str)) | .count => decide (x = ("count" : Str)) | _ => false) && isNm pa && notStar pb && decide (apos.endLine = pos.line) && ckE sc a pa && ckE sc b pb
    | _ => false
  | .ms m a b, e => match e with
    | .Call (.Attribute pa x apos) [pb] [] pos => (match m with | .split => decide (x = ("split" : Str)) | .join => decide (x = ("join" : Str)) | _ => false) && (isNm pa || isCs pa) && notStar pb && decide (apos.endLine = pos.line) && ckE sc a pa && ckE sc b pb
    | _ => false
  | .m2 _ _ _ _, _ => false
  | .lend f i b, e => match e with
    | .Call (.Name x _) [.Name y _, pb] ks _ => noKw ks && decide (tx.fns[f]? = some x) && glB sc x && nmB x && decide (N[i]? = some y) && visB sc y && nmB y && notStar pb && ckE sc b pb && noB b
    | _ => false
  | .dgd a b c, e => match e with
    | .Call (.Attribute pa x apos) [pb, pc] [] pos => decide (x = ("get" : Str)) && (isNm pa || isSb pa) && notStar pb && notStar pc && decide (apos.endLine = pos.line) && ckE sc a pa && ckE sc b pb && ckE sc c pc && noB c
    | _ => false
  | .dix a b, e => match e with
    | .Subscript pa pb _ => plainSub pb && ckE sc a pa && ckE sc b pb
    | _ => false
  | .mnd a, e => match e with
    | .Call (.Name x _) [pa] [⟨some y, .Constant .none _ _, _⟩] _ => bltB sc x "min" && decide (y = ("default" : Str)) && notStar pa && ckE sc a pa
    | _ => false
  | .dg2 k1 k2 a b c, e => match e with
    | .Call (.Attribute (.Dict [some (.Constant (.str x1) _ _), some (.Constant (.str x2) _ _)] [pa, pb] _) x apos) [pc] [] pos => decide (x = ("get" : Str)) && decide (x1 = k1) && decide (x2 = k2) && notStar pc && decide (apos.endLine = pos.line) && ckE sc a pa && noB a && ckE sc b pb && noB b && ckE sc c pc
    | _ => false
  | .comp elt t it cond own, e => match e with
    | .ListComp pelt [⟨tg, iter, ifs, 0⟩] scope _ => blkC N sc scope (own.map fun i => ((N[i]?).getD ⟨#[]⟩, i)) && (T.sl t).all (fun j => own.contains j) && notSet iter && ckT N scope t tg && ckI sc false (isTup tg) it iter &&
        ckC (relS scope sc) cond ifs && ckE (relS scope sc) elt pelt && noB elt
    | _ => false
def ckEs (sc : Scope) : List E → List Expr → Bool
  | [], ps => ps.isEmpty
  | e :: es, ps => match ps with
    | p :: ps => notStar p && ckE sc e p && ckEs sc es ps
    | [] => false
def ckC (sc : Scope) : List E → List Expr → Bool
  | [], ps => ps.isEmpty
  | e :: es, ps => match ps with
    | [p] => es.isEmpty && ckE sc e p && noB e && noIf p
    | _ => false
/-- m: frozen things alone; tp: the target is a tuple -/
def ckI (sc : Scope) (m tp : Bool) : I → Expr → Bool
  | .of a, e => ckE sc a e && (!m || noB a)
  | .r1 a, e => match e with
    | .Call (.Name x _) [pa] ks _ => noKw ks && bltB sc x "range" && notStar pa && ckE sc a pa && noB a
    | _ => false
  | .r2 a b, e => match e with
    | .Call (.Name x _) [pa, pb] ks _ => noKw ks && bltB sc x "range" && notStar pa && notStar pb && ckE sc a pa && ckE sc b pb
    | _ => false
  | .r3 _ _ _, _ => false
  | .dn a b, e => match e with
    | .Call (.Name x _) [pa, pb, .UnaryOp .USub (.Constant (.int 1) _ _) _] ks _ => noKw ks && bltB sc x "range" && notStar pa && notStar pb && ckE sc a pa && ckE sc b pb
    | _ => false
  | .zip a b, e => match e with
    | .Call (.Name x _) [pa, pb] ks _ => tp && noKw ks && bltB sc x "zip" && notStar pa && notStar pb && ckE sc a pa && (!m || noB a) && ckE sc b pb && (!m || noB b)
    | _ => false
  | .zip3 a b c, e => match e with
    | .Call (.Name x _) [pa, pb, pc] ks _ => tp && noKw ks && bltB sc x "zip" && notStar pa && notStar pb && notStar pc && ckE sc a pa && (!m || noB a) && ckE sc b pb && (!m || noB b) && ckE sc c pc && (!m || noB c)
    | _ => false
  | .enum a, e => match e with
    | .Call (.Name x _) [pa] ks _ => tp && noKw ks && bltB sc x "enumerate" && notStar pa && ckE sc a pa && (!m || noB a)
    | _ => false
end
end
end DDS

set_option Elab.async false
set_option linter.all false
set_option maxRecDepth 100000
set_option maxHeartbeats 4000000
namespace DDS
open PySem PySem.Spec PyProof.Rows L2 DD
/-- the built-ins' names that are asked -/
def bltNames : List String := ["len", "abs", "min", "max", "sum", "all", "int", "list", "tuple", "isinstance", "range", "zip", "enumerate", "bool", "str", "dict", "sorted", "ValueError", "set"]
/-- a module's constant -/
def GloFact (X : Cx) (x : Str) (d : D) : Prop := ∃ v u, X.mg x = some u ∧ RelV v u ∧ ∀ g H, RV X.K g H d v
structure ExcFact (X : Cx) (S : Sg) (c : Nat) (x : Str) : Prop where
  q : PySem.W.excIn X.K (S.ca c) He.veBase "ValueError.__new__" = true
  g : X.mg x = some (.ref (S.ca c))
  k : PySem.W.keepIn X.K (.ref (S.ca c)) = true
  s : PySem.W.subIn X.K (.ref (S.ca c)) (.type "BaseException") = some true
  t : PySem.W.typeIn X.K (.ref (S.ca c)) = some (.type "type")
structure XOk (tx : Tx) (N : List Str) (X : Cx) (S : Sg) (k : Nat) (sc : Scope) : Prop where
  K : X.K = S.K
  N_ : X.N = N
  sc_ : X.env.scope = sc
  nd : N.Nodup
  calm : X.calm = true
  room : Room k X.A
  tk : L2N.Takes X S.W
  free : ∀ s ∈ bltNames, X.mg (Str.ofString s) = none
  fns : ∀ f x, tx.fns[f]? = some x → FnAt X S k f x
  glos : ∀ p ∈ tx.glos, GloFact X p.1 p.2
  exc : ∀ c x, tx.cls[c]? = some x → ExcFact X S c x
  kin : ∀ f ws x c word, tx.kin = some (f, ws) → tx.fns[f]? = some x → wordOf ws c = some word → KinAt X S x c word
section
variable {tx : Tx} {N : List Str} {X : Cx} {S : Sg} {k : Nat} {sc : Scope}
theorem XOk.hu (o : XOk tx N X S k sc) : X.A.units + 65 < cLine := by have := o.room.un; omega
theorem visB_ok {x : Str} (h : visB sc x = true) : Vis sc x := by
  unfold visB at h
  split at h <;> first | cases h | skip
  · rename_i e; exact .inl e
  · rename_i e; exact .inr (.inl e)
  · rename_i e; exact .inr (.inr e)
theorem locB_ok {x : Str} (h : locB sc x = true) : Loc sc x := by
  unfold locB at h
  split at h <;> first | cases h | skip
  · rename_i e; exact .inl e
  · rename_i e; exact .inr e
theorem XOk.gl (o : XOk tx N X S k sc) {x : Str} (h : glB sc x = true) : Gl X x := by
  have e : sc.names.lookup x = some .globalImplicit := of_decide_eq_true h
  show X.env.scope.names.lookup x = some .globalImplicit
  rw [o.sc_]; exact e
theorem nmB_ok {x : Str} (h : nmB x = true) : (x == ("__debug__" : Str)) = false ∧ (x == ("__classdict__" : Str)) = false := by
  unfold nmB at h
  rw [Bool.and_eq_true] at h
  exact ⟨by simpa using h.1, by simpa using h.2⟩
theorem XOk.blt (o : XOk tx N X S k sc) {x : Str} {s : String} (h : bltB sc x s = true) (hs : s ∈ bltNames) : x = Str.ofString s ∧ Gl X x ∧ X.mg x = none := by
  unfold bltB at h
  rw [Bool.and_eq_true] at h
  have e : x = Str.ofString s := of_decide_eq_true h.1
  exact ⟨e, o.gl h.2, by rw [e]; exact o.free s hs⟩
/-- within a comprehension -/
theorem XOk.blk (o : XOk tx N X S k sc) {s : Shared} {H : Hp} {scope : Scope} {C : Addr} {cl : List (Str × Addr)} {fp : List Addr} : XOk tx N (X.blk s H scope (compEnvC scope cl C X.env) fp) S.calm k (relS scope sc) where
  K := o.K
  N_ := o.N_
  sc_ := by
    show relS scope X.env.scope = relS scope sc
    rw [o.sc_]
  nd := o.nd
  calm := o.calm
  room := o.room
  tk := fun u s' ⟨_, _, _, _, _, _, _, _, _, _, _, _, _, _, _, _, z⟩ => z.elim
  free := o.free
  fns := fun f x e => by
    obtain ⟨fa, fd, ps, h1, h2, h3, h4⟩ := (o.fns f x e).ex
    exact ⟨fa, fd, ps, h1, h2, h3, h4⟩
  glos := o.glos
  exc := fun c x e => by
    obtain ⟨h1, h2, h3, h4, h5⟩ := o.exc c x e
    exact ⟨h1, h2, h3, h4, h5⟩
  kin := fun f ws x c word e1 e2 e3 => by
    obtain ⟨h1, h2⟩ := o.kin f ws x c word e1 e2 e3
    exact ⟨h1, h2⟩
mutual
/-- targets: by a scope whose names are known to be stored -/
theorem sG : ∀ {t : T} {tg : Expr}, X.N.Nodup → X.N = N → X.calm = true → (∀ x, locB sc x = true → Loc X.env.scope x ∧ (X.fn x = true ∨ X.env.scope.names.lookup x = some .local)) → ckT N sc t tg = true → PG X tg (gT X.K t)
  | .nm i, tg, nd, hN, hc, hl, h => by
    unfold ckT at h
    split at h
    · rename_i x p
      rw [Bool.and_eq_true] at h
      obtain ⟨l1, l2⟩ := hl x h.2
      exact pg_name nd (by rw [hN]; exact of_decide_eq_true h.1) l1 l2
    · cases h
  | .tp ts, tg, nd, hN, hc, hl, h => by
    unfold ckT at h
    split at h
    · rename_i es kk p
      obtain ⟨h1, h2, h3⟩ := sGs nd hN hc hl h
      exact pg_tup hc h1 h2 h3
    · cases h
theorem sGs : ∀ {ts : List T} {tgs : List Expr}, X.N.Nodup → X.N = N → X.calm = true → (∀ x, locB sc x = true → Loc X.env.scope x ∧ (X.fn x = true ∨ X.env.scope.names.lookup x = some .local)) → ckTs N sc ts tgs = true →
    PGs X tgs (gTs X.K ts) ∧ (assignEach tgs X.env).length = ts.length ∧ (assignEach tgs X.env).findIdx? (·.1) = none
  | [], tgs, nd, hN, hc, hl, h => by
    unfold ckTs at h
    cases tgs with
    | nil => exact ⟨pgs_nil, rfl, rfl⟩
    | cons e es => cases h
  | t :: ts, tgs, nd, hN, hc, hl, h => by
    unfold ckTs at h
    cases tgs with
    | nil => cases h
    | cons e es =>
      simp only [Bool.and_eq_true] at h
      obtain ⟨h1, h2, h3⟩ := sGs (ts := ts) nd hN hc hl h.2
      have ea : assignEach (e :: es) X.env = (false, assign e X.env) :: assignEach es X.env := by
        have hs := h.1.1
        cases e <;> first | rfl | cases hs
      refine ⟨pgs_cons (sG nd hN hc hl h.1.2) h1 (by rw [ea]; rfl), by rw [ea]; simp [h2], by rw [ea]; simp [List.findIdx?_cons, h3]⟩
end
theorem relS_loc {scope : Scope} {x : Str} (h : locB scope x = true) : Loc (relS scope sc) x ∧ ((scope.names.lookup x == some .cell) = true ∨ (relS scope sc).names.lookup x = some .local) := by
  rcases locB_ok h with e | e
  · have q := lookup_relS_keep (sc := sc) (show NameKind.local ≠ .free by decide) e
    exact ⟨.inl q, .inr q⟩
  · have q := lookup_relS_keep (sc := sc) (show NameKind.cell ≠ .free by decide) e
    exact ⟨.inr q, .inl (by rw [e]; rfl)⟩
theorem sG_blk (o : XOk tx N X S k sc) {scope : Scope} {t : T} {tg : Expr} (h : ckT N scope t tg = true) : ∀ (s : Shared) (H : Hp) (C : Addr) (cl : List (Str × Addr)) (fp : List Addr), PG (X.blk s H scope (compEnvC scope cl C X.env) fp) tg (gT S.K t) := by
  intro s H C cl fp
  have q := sG (X := X.blk s H scope (compEnvC scope cl C X.env) fp) (N := N) (sc := scope) (t := t) (tg := tg) (by rw [o.N_]; exact o.nd) o.N_ o.calm (fun x hx => relS_loc hx) h
  rw [← o.K]; exact q
end
end DDS

set_option Elab.async false
set_option linter.all false
set_option maxRecDepth 100000
set_option maxHeartbeats 2000000
namespace DDS
open PySem PySem.Spec PyProof.Rows L2 DD
/-! ### a call of a def that is chosen out of a list -/
/-- what is known of a def at an address -/
def DefAt (X : Cx) (S : Sg) (k f : Nat) (fa : Addr) : Prop := ∃ fd ps, FnOk X.prog X.w X.K X.mg X.base (L2N.CX X.prog X.w) k fa fd ps (spOf S.K S.ca S.cl f) ∧ PySem.W.keepIn X.K (.ref fa) = true ∧ Binds X.K fd ps []
section
variable {tx : Tx} {N : List Str} {X : Cx} {S : Sg} {k : Nat} {sc : Scope} {pos pl pi : Pos} {pa pk : Expr}
theorem k_names (o : XOk tx N X S k sc) : ∀ {fs : List Nat} {ns : List Expr}, ckNms tx sc fs ns = true → ∃ as : List Addr, PA X ns (fun σ H Q => Q (as.map V.ref) H) ∧ as.length = fs.length ∧ ∀ (j : Nat) f, fs[j]? = some f → ∃ fa, as[j]? = some fa ∧ DefAt X S k f fa
  | [], ns, h => by
    cases ns with
    | nil => exact ⟨[], pa_nil.mono fun σ H Q q => q, rfl, fun j f e => by simp at e⟩
    | cons x es => cases h
  | f :: fs, ns, h => by
    cases ns with
    | nil => cases h
    | cons n ns =>
      simp only [ckNms, Bool.and_eq_true] at h
      obtain ⟨h1, h2⟩ := h
      split at h1
      · rename_i x p
        simp only [Bool.and_eq_true, decide_eq_true_eq] at h1
        obtain ⟨as, i1, i2, i3⟩ := k_names o h2
        obtain ⟨fa, fd, ps, F, hm, hk, hb⟩ := (o.fns f x h1.1.1).ex
        refine ⟨fa :: as, (pa_cons (pe_glob (v := .ref fa) (o.gl h1.1.2) hm rfl (nmB_ok h1.2).1) i1 (star_cons rfl)).mono fun σ H Q q => q, by simp [i2], fun j f' e => ?_⟩
        cases j with
        | zero => simp at e; subst e; exact ⟨fa, rfl, fd, ps, F, hk, hb⟩
        | succ j => exact i3 j f' (by simpa using e)
      · cases h1
theorem call_post {f : Nat} {es : List E} {σ : Sl} {H : Hp} {g : Gh} {st : Store} {env : Ev} {Q : VK} (at_ : At S σ H g st env) (h : Post S σ g H ((evEs S.cl es env st).bind fun ds st => S.cl f ds st) (rW S.K) Q) :
    tEs S (rFs S.K) es σ H (fun vs H1 => spOf S.K S.ca S.cl f vs H1 Q (WE S.W σ)) := by
  refine ⟨g, st, env, at_, (Post.bind (rel1 := rFs S.K) up_W h).mono fun g' H' d v st' s w r k => ?_⟩
  obtain ⟨g1, st1, ds, s1, w1, r1, h1⟩ := k g' H' v s w r
  refine ⟨g1, st1, ds, w1, r1, ?_⟩
  cases e : S.cl f ds st1 with
  | ok w st2 => rw [e] at h1; exact fun g' H' v s w r => h1 g' H' v s w r
  | exc c st2 => rw [e] at h1; exact fun g' H' s w => h1 g' H' s w
  | bad => rw [e] at h1; exact h1
theorem w_sel (o : XOk tx N X S k sc) {fs : List Nat} {ns pes : List Expr} {ke : E} {es : List E} (hn : ckNms tx sc fs ns = true) (hfl : fs.length ≤ 100) (hp : PlainIx pk) (hk : PE X pk (tB S ke)) (hs : (pa :: pes).all notStar = true)
    (ha : PA X (pa :: pes) (tEs S (rFs S.K) es)) : PE X (.Call (.Subscript (.List ns pl) pk pi) (pa :: pes) [] pos) (tW S (.sel fs ke es)) := by
  obtain ⟨as, i1, i2, i3⟩ := k_names o hn
  rw [List.all_cons, Bool.and_eq_true] at hs
  refine ⟨fun pins s σ H Q I h => ?_⟩
  obtain ⟨g, st, env, at_, h⟩ := h
  have hf := pe_ix (pos := pi) ix_list (pe_lst (pos := pl) i1) hk hp
  refine Call_ (thn (hf.run pins s σ H (fun y H1 => ∃ fa f, y = V.ref fa ∧ DefAt X S k f fa ∧ tEs S (rFs S.K) es σ H1 (fun vs H1 => spOf S.K S.ca S.cl f vs H1 Q (WE S.W σ))) I ?h1) fun u s1 ⟨y, H1, I1, ry, fa, f, ey, dA, q⟩ => ?h2) rfl
  case h2 =>
    subst ey
    obtain rfl : u = Value.ref fa := ry
    obtain ⟨fd, ps, F, hkp, hb⟩ := dA
    refine PySem.W.callWith_K (h₀ := X.base) I.ok.mod.kin hkp (thn (ha.run pos pins s1 σ H1 _ I1 q) fun us s2 ⟨vs, H2, I2, r, q2⟩ => ⟨I2.kIn, ?_⟩) (star_cons hs.1) (star_all hs.2)
    exact run_fnS F o.room hb (L2N.passAt o.tk σ) I2 r q2
  case h1 =>
    refine ⟨by rw [List.length_map, i2]; have := sizeLine_eq; omega, fun p hp => ?_⟩
    have a1 := at_.step (Step.alloc (o := .lst (as.map V.ref)) hp) (at_.2.1.alloc hp)
    rw [evW] at h
    have h' := Post.step up_W (Step.alloc (o := .lst (as.map V.ref)) hp) h
    refine ⟨g, st, env, a1, (Post.bind (rel1 := rB S.K) up_W h').mono fun g' H' d v st' s w r kk => ?_⟩
    obtain ⟨g1, st1, d1, s1, w1, r1, h1⟩ := kk g' H' v s w r
    cases d1 <;> try exact h1.elim
    rename_i i
    simp only at h1
    cases e : (place fs.length i).bind (fs[·]?) with
    | none => rw [e] at h1; exact h1.elim
    | some f =>
      rw [e] at h1
      obtain ⟨j, e1, e2⟩ := Option.bind_eq_some_iff.mp e
      obtain ⟨fa, e3, dA⟩ := i3 j f e2
      have hH : H' p = some (.lst (as.map V.ref)) := s1.kp p _ upd_same (at_.2.1.newk hp)
      refine ⟨p, as.map V.ref, i, .ref fa, rfl, r1, .inl (.inl hH), ?_, fa, f, rfl, dA, call_post (a1.step s1 w1) h1⟩
      refine atI_of (p := j) ?_ (by rw [List.getElem?_map, e3]; rfl)
      rw [← place_ix, List.length_map, i2]
      exact e1
theorem sel_assoc {cl : CallT} {fs : List Nat} {ke : E} {es : List E} {env : Ev} {st : Store} : evE cl (.sel fs ke es) env st = (evW cl (.sel fs ke es) env st).bind fun w st => .ok w.d st := by
  simp only [evE, evW]
  rw [bind_assoc]
  congr 1
  funext x st
  cases x <;> first | rfl | skip
  rename_i i
  simp only
  cases (place fs.length i).bind (fs[·]?) with
  | none => rfl
  | some f => simp only; rw [bind_assoc]
theorem tW_Fs {fs : List Nat} {ke : E} {es : List E} {σ : Sl} {H : Hp} {Q : VK} (h : tF S (.sel fs ke es) σ H Q) : tW S (.sel fs ke es) σ H Q := by
  obtain ⟨g, st, env, at_, h⟩ := h
  refine ⟨g, st, env, at_, Post.frzW ?_⟩
  rw [sel_assoc] at h
  exact h
end
end DDS

set_option Elab.async false
set_option linter.all false
set_option maxRecDepth 100000
set_option maxHeartbeats 8000000
namespace DDS
open PySem PySem.Spec PyProof.Rows L2 DD
section
variable {tx : Tx} {N : List Str}
theorem t_isN {X : Cx} {S : Sg} {pos : Pos} {pa : Expr} {a : E} {k : Nat} {p2 : Pos} (ha : PE X pa (tB S a)) : PT X (.Compare pa [.Is] [.Constant .none k p2] pos) (tT S (.isd a .non true)) := by
  refine (pt_cmp (pc_isN ha)).mono fun σ H Q ⟨g, st, env, at_, h⟩ => ?_
  have h' : Post S σ g H ((evE S.cl a env st).bind fun x st => match x with | .non => R.ok true st | _ => R.ok false st) rT Q := by
    have e : tested (evE S.cl (.isd a .non true) env st) = ((evE S.cl a env st).bind fun x st => match x with | .non => R.ok true st | _ => R.ok false st) := by
      simp only [evE, tested]
      cases evE S.cl a env st with
      | ok d st => cases d <;> rfl
      | exc c st => rfl
      | bad => rfl
    rw [← e]; exact h
  refine tE_imp (lem1 (rel1 := rB S.K) at_ up_T h') fun x H1 ⟨g, st, d, a1, r, h1⟩ => ⟨_, rfl, ?_⟩
  rw [RB.nonIff r]
  cases d <;> exact h1 g H1 _ (Step.refl _ _) a1.2.1 rfl
theorem t_notN {X : Cx} {S : Sg} {pos : Pos} {pa : Expr} {a : E} {k : Nat} {p2 : Pos} (ha : PE X pa (tB S a)) : PT X (.Compare pa [.IsNot] [.Constant .none k p2] pos) (tT S (.isd a .non false)) := by
  refine (pt_cmp (pc_notN ha)).mono fun σ H Q ⟨g, st, env, at_, h⟩ => ?_
  have h' : Post S σ g H ((evE S.cl a env st).bind fun x st => match x with | .non => R.ok false st | _ => R.ok true st) rT Q := by
    have e : tested (evE S.cl (.isd a .non false) env st) = ((evE S.cl a env st).bind fun x st => match x with | .non => R.ok false st | _ => R.ok true st) := by
      simp only [evE, tested]
      cases evE S.cl a env st with
      | ok d st => cases d <;> rfl
      | exc c st => rfl
      | bad => rfl
    rw [← e]; exact h
  refine tE_imp (lem1 (rel1 := rB S.K) at_ up_T h') fun x H1 ⟨g, st, d, a1, r, h1⟩ => ⟨_, rfl, ?_⟩
  rw [RB.nonIff r]
  cases d <;> exact h1 g H1 _ (Step.refl _ _) a1.2.1 rfl
theorem t_isBl {X : Cx} {S : Sg} {pos : Pos} {pa : Expr} {a : E} {k : Nat} {p2 : Pos} {t : Bool} (ha : PE X pa (tB S a)) : PT X (.Compare pa [.Is] [.Constant (.bool t) k p2] pos) (tT S (.isd a (.bool t) true)) := by
  refine (pt_cmpR op_isBl ha pe_bl (nomark _)).mono fun σ H Q ⟨g, st, env, at_, h⟩ => ?_
  have h' : Post S σ g H ((evE S.cl a env st).bind fun x st => match x with | .bool c => R.ok ((t == c) == true) st | _ => .bad) rT Q := by
    have e : tested (evE S.cl (.isd a (.bool t) true) env st) = ((evE S.cl a env st).bind fun x st => match x with | .bool c => R.ok ((t == c) == true) st | _ => .bad) := by
      simp only [evE, tested]
      cases evE S.cl a env st with
      | ok d st => cases d <;> rfl
      | exc c st => rfl
      | bad => rfl
    rw [← e]; exact h
  refine tE_imp (lem1 (rel1 := rB S.K) at_ up_T h') fun x H1 ⟨g, st, d, a1, r, h1⟩ => ?_
  cases d <;> try exact h1.elim
  rename_i q
  cases r
  refine ⟨q, t, rfl, rfl, _, rfl, ?_⟩
  have e : decide (q = t) = ((t == q) == true) := by cases q <;> cases t <;> rfl
  rw [e]
  exact h1 g H1 _ (Step.refl _ _) a1.2.1 rfl
theorem t_notBl {X : Cx} {S : Sg} {pos : Pos} {pa : Expr} {a : E} {k : Nat} {p2 : Pos} {t : Bool} (ha : PE X pa (tB S a)) : PT X (.Compare pa [.IsNot] [.Constant (.bool t) k p2] pos) (tT S (.isd a (.bool t) false)) := by
  refine (pt_cmpR op_notBl ha pe_bl (nomark _)).mono fun σ H Q ⟨g, st, env, at_, h⟩ => ?_
  have h' : Post S σ g H ((evE S.cl a env st).bind fun x st => match x with | .bool c => R.ok ((t == c) == false) st | _ => .bad) rT Q := by
    have e : tested (evE S.cl (.isd a (.bool t) false) env st) = ((evE S.cl a env st).bind fun x st => match x with | .bool c => R.ok ((t == c) == false) st | _ => .bad) := by
      simp only [evE, tested]
      cases evE S.cl a env st with
      | ok d st => cases d <;> rfl
      | exc c st => rfl
      | bad => rfl
    rw [← e]; exact h
  refine tE_imp (lem1 (rel1 := rB S.K) at_ up_T h') fun x H1 ⟨g, st, d, a1, r, h1⟩ => ?_
  cases d <;> try exact h1.elim
  rename_i q
  cases r
  refine ⟨q, t, rfl, rfl, _, rfl, ?_⟩
  have e : (!decide (q = t)) = ((t == q) == false) := by cases q <;> cases t <;> rfl
  rw [e]
  exact h1 g H1 _ (Step.refl _ _) a1.2.1 rfl
theorem a4 {a b c d : Bool} (h : (a && b && c && d) = true) : a = true ∧ b = true ∧ c = true ∧ d = true := by simpa [Bool.and_eq_true, and_assoc] using h
theorem rM_F {m : Bool} {X : Cx} {S : Sg} {pe : Expr} {e : E} (hb : PE X pe (tB S e)) (hf : noB e = true → PE X pe (tF S e)) (h : (!m || noB e) = true) : PE X pe (tE S (rM m S.K) e) := by
  cases m with
  | false => exact hb
  | true => exact hf (by simpa using h)
theorem cst_e {X : Cx} {S : Sg} {d : D} {c : Const} {k : Nat} {pos : Pos} (h : cstB d c = true) : PE X (.Constant c k pos) (tF S (.cst d)) := by
  cases d <;> cases c <;> simp [cstB] at h <;> first | subst h | skip
  · exact e_cst pe_non fun _ _ => rfl
  · exact e_cst pe_bl fun _ _ => rfl
  · exact e_cst pe_int fun _ _ => rfl
  · exact e_cst pe_str fun _ _ => rfl
theorem b1_e {X : Cx} {S : Sg} {k : Nat} {sc : Scope} (o : XOk tx N X S k sc) {bi : Bi} {s : String} {x : Str} {p pos : Pos} {pa : Expr} {a : E} (hb : bi1S bi = some s) (hx : bltB sc x s = true) (hs : notStar pa = true) (ha : PE X pa (tB S a)) : PE X (.Call (.Name x p) [pa] [] pos) (tN S (.b1 bi a)) := by
  have hK := o.K
  have hu := o.hu
  have hc := o.calm
  cases bi <;> cases hb
  · obtain ⟨rfl, h1, h2⟩ := o.blt hx (by decide); exact e_b1 (by rw [← hK]; exact call_b_len) h1 h2 (by decide +kernel) (by decide) (by decide) hs ha
  · obtain ⟨rfl, h1, h2⟩ := o.blt hx (by decide); exact e_b1 (by rw [← hK]; exact call_b_abs) h1 h2 (by decide +kernel) (by decide) (by decide) hs ha
  · obtain ⟨rfl, h1, h2⟩ := o.blt hx (by decide); exact e_b1 (by rw [← hK]; exact call_b_min hc hu) h1 h2 (by decide +kernel) (by decide) (by decide) hs ha
  · obtain ⟨rfl, h1, h2⟩ := o.blt hx (by decide); exact e_b1 (by rw [← hK]; exact call_b_max hc hu) h1 h2 (by decide +kernel) (by decide) (by decide) hs ha
  · obtain ⟨rfl, h1, h2⟩ := o.blt hx (by decide); exact e_b1 (by rw [← hK]; exact call_b_sum hc) h1 h2 (by decide +kernel) (by decide) (by decide) hs ha
  · obtain ⟨rfl, h1, h2⟩ := o.blt hx (by decide); exact e_b1 (by rw [← hK]; exact call_b_all hc) h1 h2 (by decide +kernel) (by decide) (by decide) hs ha
  · obtain ⟨rfl, h1, h2⟩ := o.blt hx (by decide); exact e_b1T (by rw [← hK]; exact call_b_int) h1 h2 (by decide +kernel) (by decide) (by decide) hs ha
  · obtain ⟨rfl, h1, h2⟩ := o.blt hx (by decide); exact e_b1T (by rw [← hK]; exact call_b_list) h1 h2 (by decide +kernel) (by decide) (by decide) hs ha
  · obtain ⟨rfl, h1, h2⟩ := o.blt hx (by decide); exact e_b1T (by rw [← hK]; exact call_b_tuple) h1 h2 (by decide +kernel) (by decide) (by decide) hs ha
  · obtain ⟨rfl, h1, h2⟩ := o.blt hx (by decide); exact e_b1 (by rw [← hK]; exact call_b_sorted) h1 h2 (by decide +kernel) (by decide) (by decide) hs ha
  · obtain ⟨rfl, h1, h2⟩ := o.blt hx (by decide); exact e_b1T (by rw [← hK]; exact call_b_str) h1 h2 (by decide +kernel) (by decide) (by decide) hs ha
  · obtain ⟨rfl, h1, h2⟩ := o.blt hx (by decide); exact e_b1 (by rw [← hK]; exact call_b_minp hc hu) h1 h2 (by decide +kernel) (by decide) (by decide) hs ha
  · obtain ⟨rfl, h1, h2⟩ := o.blt hx (by decide); exact e_b1 (by rw [← hK]; exact call_b_sortw) h1 h2 (by decide +kernel) (by decide) (by decide) hs ha
theorem b2_e {X : Cx} {S : Sg} {k : Nat} {sc : Scope} (o : XOk tx N X S k sc) {bi : Bi} {s : String} {x : Str} {p pos : Pos} {pa pb : Expr} {a b : E} (hb : bi2S bi = some s) (hx : bltB sc x s = true) (hs : notStar pa = true) (hs2 : notStar pb = true) (ha : PE X pa (tB S a)) (hb2 : PE X pb (tB S b)) : PE X (.Call (.Name x p) [pa, pb] [] pos) (tN S (.b2 bi a b)) := by
  have hK := o.K
  have hc := o.calm
  cases bi <;> cases hb
  · obtain ⟨rfl, h1, h2⟩ := o.blt hx (by decide); exact e_b2 (by rw [← hK]; exact call_b_min2 hc) h1 h2 (by decide +kernel) (by decide) (by decide) hs hs2 ha hb2
  · obtain ⟨rfl, h1, h2⟩ := o.blt hx (by decide); exact e_b2 (by rw [← hK]; exact call_b_max2 hc) h1 h2 (by decide +kernel) (by decide) (by decide) hs hs2 ha hb2
theorem ty_mem (t : Ty) : tyP t ∈ bltNames := by cases t <;> decide
theorem noKw_nil {ks : List Keyword} (h : noKw ks = true) : ks = [] := by cases ks <;> first | rfl | cases h
theorem ckEs_star {sc : Scope} : ∀ {es : List E} {ps : List Expr}, ckEs tx N sc es ps = true → ps.all notStar = true
  | [], ps, h => by
    unfold ckEs at h
    cases ps <;> first | rfl | cases h
  | e :: es, ps, h => by
    unfold ckEs at h
    cases ps with
    | nil => cases h
    | cons p ps =>
      simp only [Bool.and_eq_true] at h
      rw [List.all_cons, h.1.1, ckEs_star h.2]; rfl
theorem ckEs_nil {sc : Scope} {es : List E} (h : ckEs tx N sc es [] = true) : es = [] := by
  cases es with
  | nil => rfl
  | cons e es => unfold ckEs at h; cases h
/-- a test whose truth is its value's -/
def plainT : Expr → Bool
  | .UnaryOp .Not _ _ => false
  | .BoolOp _ _ _ => false
  | .IfExp _ _ _ _ => false
  | .Compare _ _ _ _ => false
  | _ => true
theorem isTrue_of {pe : Expr} {env : Env} (h : plainT pe = true) : ∀ whole, isTrue pe env whole = (do let v ← whole; standAt pe.pos; holding [v] (truthy v)) := by
  intro whole
  cases pe <;> first | rfl | cases h | skip
  rename_i op x p
  cases op <;> first | rfl | cases h
def special : E → Bool
  | .not _ => true
  | .and _ _ => true
  | .or _ _ => true
  | .cmp _ _ _ => true
  | .isd _ _ _ => true
  | .chain _ _ _ _ _ => true
  | .orv _ _ => true
  | _ => false
theorem plain_of {sc : Scope} {e : E} {pe : Expr} (h : ckE tx N sc e pe = true) (hs : special e = false) (hi : noIf pe = true) : plainT pe = true := by
  cases pe <;> first | rfl | cases hi | skip
  · cases e <;> first | (cases (show true = false from hs)) | (unfold ckE at h; cases h)
  · rename_i op x p
    cases op <;> first | rfl | skip
    cases e <;> first | (cases (show true = false from hs)) | (unfold ckE at h; simp at h)
  · cases e <;> first | (cases (show true = false from hs)) | (unfold ckE at h; cases h)
mutual
def sz : E → Nat
  | .var _ => 1
  | .varB _ => 1
  | .cst _ => 1
  | .glo _ _ => 1
  | .bin _ a b => 1 + sz a + sz b
  | .neg a => 1 + sz a
  | .not a => 1 + sz a
  | .and a b => 1 + sz a + sz b
  | .or a b => 1 + sz a + sz b
  | .cmp _ a b => 1 + sz a + sz b
  | .isd a _ _ => 1 + sz a
  | .chain _ _ a b c => 1 + sz a + sz b + sz c
  | .ite a b c => 1 + sz a + sz b + sz c
  | .tup es => 1 + szs es
  | .lst es => 1 + szs es
  | .dic0 => 1
  | .idx a b => 1 + sz a + sz b
  | .idxC a b => 1 + sz a + sz b
  | .popC a b => 1 + sz a + sz b
  | .lenC a => 1 + sz a
  | .idx2 _ a b => 1 + sz a + sz b
  | .orv a b => 1 + sz a + sz b
  | .sl a b c => 1 + sz a + sz b + sz c
  | .slF a b => 1 + sz a + sz b
  | .slT a b => 1 + sz a + sz b
  | .rev a => 1 + sz a
  | .call _ es => 1 + szs es
  | .callB _ es => 1 + szs es
  | .sel _ a es => 1 + sz a + szs es
  | .b1 _ a => 1 + sz a
  | .b2 _ a b => 1 + sz a + sz b
  | .lof it => 1 + szI it
  | .isi a _ => 1 + sz a
  | .m0 _ a => 1 + sz a
  | .m1 _ a b => 1 + sz a + sz b
  | .ms _ a b => 1 + sz a + sz b
  | .m2 _ a b c => 1 + sz a + sz b + sz c
  | .dgd a b c => 1 + sz a + sz b + sz c
  | .dix a b => 1 + sz a + sz b
  | .mnd a => 1 + sz a
  | .dg2 _ _ a b c => 1 + sz a + sz b + sz c
  | .lend _ _ b => 1 + sz b
  | .comp e _ it c _ => 1 + sz e + szI it + szs c
def szs : List E → Nat
  | [] => 0
  | e :: es => 1 + sz e + szs es
def szI : I → Nat
  | .of a => 1 + sz a
  | .r1 a => 1 + sz a
  | .r2 a b => 1 + sz a + sz b
  | .r3 a b c => 1 + sz a + sz b + sz c
  | .dn a b => 1 + sz a + sz b
  | .zip a b => 1 + sz a + sz b
  | .zip3 a b c => 1 + sz a + sz b + sz c
  | .enum a => 1 + sz a
end
/-- what makes a new thing -/
def freshE : E → Bool
  | .bin _ _ _ => true
  | .lst _ => true
  | .dic0 => true
  | .sl _ _ _ => true
  | .slF _ _ => true
  | .slT _ _ => true
  | .b1 _ _ => true
  | .b2 _ _ _ => true
  | .comp _ _ _ _ _ => true
  | .ms _ _ _ => true
  | _ => false
/-- all that is shown of terms of a size below n -/
structure All (tx : Tx) (N : List Str) (n : Nat) : Prop where
  E : ∀ {e : DD.E} {X : Cx} {S : Sg} {k : Nat} {sc : Scope} {pe : Expr}, sz e < n → XOk tx N X S k sc → ckE tx N sc e pe = true → noB e = true → PE X pe (tF S e)
  Fs : ∀ {es : List DD.E} {X : Cx} {S : Sg} {k : Nat} {sc : Scope} {ps : List Expr}, szs es < n → XOk tx N X S k sc → ckEs tx N sc es ps = true → noBs es = true → PA X ps (tEs S (rFs S.K) es)
  Bs : ∀ {es : List DD.E} {X : Cx} {S : Sg} {k : Nat} {sc : Scope} {ps : List Expr}, szs es < n → XOk tx N X S k sc → ckEs tx N sc es ps = true → PA X ps (tEs S (rBs S.K) es)
  T : ∀ {e : DD.E} {X : Cx} {S : Sg} {k : Nat} {sc : Scope} {pe : Expr}, sz e < n → XOk tx N X S k sc → ckE tx N sc e pe = true → noB e = true → noIf pe = true → PT X pe (tT S e)
  W : ∀ {e : DD.E} {X : Cx} {S : Sg} {k : Nat} {sc : Scope} {op : BoolOp} {vs : List Expr} {p : Pos}, sz e < n → XOk tx N X S k sc → ckE tx N sc e (.BoolOp op vs p) = true → noB e = true → PW X (.BoolOp op vs p) (tT S e)
  C : ∀ {es : List DD.E} {X : Cx} {S : Sg} {k : Nat} {sc : Scope} {ps : List Expr}, szs es < n → XOk tx N X S k sc → ckC tx N sc es ps = true → PTs X ps (tTs S es)
  I : ∀ {it : DD.I} {X : Cx} {S : Sg} {k : Nat} {sc : Scope} {m : Bool} {tg iter : Expr}, szI it < n → XOk tx N X S k sc → ckI tx N sc m (isTup tg) it iter = true → PI X tg iter (wI S m it)
def isOrv : E → Bool
  | .orv _ _ => true
  | _ => false
theorem sB_of {e : E} {X : Cx} {S : Sg} {k : Nat} {sc : Scope} {pe : Expr} (ok : XOk tx N X S k sc) (h : ckE tx N sc e pe = true) (ho : isOrv e = false) (hE : noB e = true → PE X pe (tF S e)) : PE X pe (tB S e) := by
  by_cases hb : noB e = true
  · exact (hE hb).toB
  · cases e <;> try (exact absurd rfl hb)
    · unfold ckE at h
      split at h <;> try cases h
      simp only [Bool.and_eq_true, decide_eq_true_eq] at h
      obtain ⟨h1, h2⟩ := nmB_ok h.2
      exact e_varB (by rw [ok.N_]; exact h.1.1) (by rw [ok.sc_]; exact visB_ok h.1.2) h1 h2
    · cases ho
theorem All.B {n : Nat} (ih : All tx N n) {e : DD.E} {X : Cx} {S : Sg} {k : Nat} {sc : Scope} {pe : Expr} (hn : sz e < n) (ok : XOk tx N X S k sc) (h : ckE tx N sc e pe = true) : PE X pe (tB S e) := by
  by_cases ho : isOrv e = true
  · cases e <;> try cases ho
    unfold ckE at h
    split at h <;> try cases h
    simp only [Bool.and_eq_true, decide_eq_true_eq] at h
    obtain ⟨rfl, h⟩ := h
    split at h <;> try cases h
    simp only [Bool.and_eq_true] at h
    obtain ⟨⟨⟨h1, h2⟩, h3⟩, h4⟩ := h
    exact (e_orv (ih.E (by simp only [sz, szs, szI] at hn ⊢; omega) ok h1 h2) (pe_one (ih.E (by simp only [sz, szs, szI] at hn ⊢; omega) ok h3 h4))).toB
  · exact sB_of ok h (Bool.eq_false_iff.mpr ho) fun hb => ih.E hn ok h hb
theorem sN_ {n : Nat} (ih : All tx N n) : ∀ {e : E} {X : Cx} {S : Sg} {k : Nat} {sc : Scope} {pe : Expr}, sz e < n + 1 → XOk tx N X S k sc → ckE tx N sc e pe = true → freshE e = true → PE X pe (tN S e)
  | .bin o a b, X, S, k, sc, pe, hn, ok, h, _ => by
    unfold ckE at h
    split at h <;> try cases h
    rename_i pa op pb p
    simp only [Bool.and_eq_true, decide_eq_true_eq] at h
    obtain ⟨⟨rfl, h1⟩, h2⟩ := h
    exact e_bin ok.K (ih.B (by simp only [sz, szs, szI] at hn ⊢; omega) ok h1) (ih.B (by simp only [sz, szs, szI] at hn ⊢; omega) ok h2)
  | .lst es, X, S, k, sc, pe, hn, ok, h, _ => by
    unfold ckE at h
    split at h <;> try cases h
    rw [Bool.and_eq_true] at h
    exact e_lst (ih.Fs (by simp only [sz, szs, szI] at hn ⊢; omega) ok h.1 h.2)
  | .dic0, X, S, k, sc, pe, hn, ok, h, _ => by
    unfold ckE at h
    split at h <;> try cases h
    rename_i ks vs p
    rw [Bool.and_eq_true] at h
    cases ks <;> cases vs <;> first | exact e_dic0 | (simp at h)
  | .sl a b c, X, S, k, sc, pe, hn, ok, h, _ => by
    unfold ckE at h
    split at h <;> try cases h
    simp only [Bool.and_eq_true] at h
    exact e_sl ok.K (ih.B (by simp only [sz, szs, szI] at hn ⊢; omega) ok h.1.1) (ih.B (by simp only [sz, szs, szI] at hn ⊢; omega) ok h.1.2) (ih.B (by simp only [sz, szs, szI] at hn ⊢; omega) ok h.2)
  | .slF a b, X, S, k, sc, pe, hn, ok, h, _ => by
    unfold ckE at h
    split at h <;> try cases h
    simp only [Bool.and_eq_true] at h
    exact e_slF ok.K (ih.B (by simp only [sz, szs, szI] at hn ⊢; omega) ok h.1) (ih.B (by simp only [sz, szs, szI] at hn ⊢; omega) ok h.2)
  | .slT a b, X, S, k, sc, pe, hn, ok, h, _ => by
    unfold ckE at h
    split at h <;> try cases h
    simp only [Bool.and_eq_true] at h
    exact e_slT ok.K (ih.B (by simp only [sz, szs, szI] at hn ⊢; omega) ok h.1) (ih.B (by simp only [sz, szs, szI] at hn ⊢; omega) ok h.2)
  | .b1 bi a, X, S, k, sc, pe, hn, ok, h, _ => by
    unfold ckE at h
    split at h <;> try cases h
    rename_i x p pa ks p2
    rw [Bool.and_eq_true] at h
    obtain ⟨h1, h2⟩ := h
    have := noKw_nil h1; subst this
    cases e : bi1S bi with
    | none =>
      simp only [e] at h2
      split at h2 <;> try (cases h2; done)
      rename_i y p3 pb ks2 p4
      simp only [Bool.and_eq_true] at h2
      obtain ⟨⟨⟨⟨⟨q1, q2⟩, q3⟩, q4⟩, q5⟩, q6⟩ := h2
      cases bi <;> try (cases q1; done)
      have := noKw_nil q4; subst this
      obtain ⟨rfl, z1, z2⟩ := ok.blt q2 (by decide)
      obtain ⟨rfl, z3, z4⟩ := ok.blt q3 (by decide)
      exact e_sset ok.K ok.calm ok.hu z1 z2 z3 z4 q5 (ih.B (by simp only [sz, szs, szI] at hn ⊢; omega) ok q6)
    | some s =>
      simp only [e, Bool.and_eq_true] at h2
      exact b1_e ok e h2.1.1 h2.1.2 (ih.B (by simp only [sz, szs, szI] at hn ⊢; omega) ok h2.2)
  | .b2 bi a b, X, S, k, sc, pe, hn, ok, h, _ => by
    unfold ckE at h
    split at h <;> try cases h
    rename_i x p pa pb ks p2
    simp only [Bool.and_eq_true] at h
    obtain ⟨⟨⟨⟨⟨h1, h2⟩, h3⟩, h4⟩, h5⟩, h6⟩ := h
    have := noKw_nil h1; subst this
    cases e : bi2S bi with
    | none => rw [e] at h2; cases h2
    | some s => rw [e] at h2; exact b2_e ok e h2 h3 h4 (ih.B (by simp only [sz, szs, szI] at hn ⊢; omega) ok h5) (ih.B (by simp only [sz, szs, szI] at hn ⊢; omega) ok h6)
  | .comp elt t it cond own, X, S, k, sc, pe, hn, ok, h, _ => by
    unfold ckE at h
    split at h <;> try cases h
    rename_i pelt tg iter ifs scope p
    simp only [Bool.and_eq_true] at h
    obtain ⟨⟨⟨⟨⟨⟨⟨h1, h2⟩, h3⟩, h4⟩, h5⟩, h6⟩, h7⟩, h8⟩ := h
    refine e_comp (ownN := own.map fun i => ((N[i]?).getD ⟨#[]⟩, i)) ok.K ok.calm (by rw [ok.N_]; exact ok.nd) (blkOk_by (by rw [ok.N_, ok.sc_]; exact h1)) (by simp [List.map_map, Function.comp_def]) (fun j hj => ?_) h3
      (ih.I (by simp only [sz, szs, szI] at hn ⊢; omega) ok h5) (sG_blk ok h4) (fun s H C cl fp => ih.C (by simp only [sz, szs, szI] at hn ⊢; omega) ok.blk h6) (fun s H C cl fp => ih.E (by simp only [sz, szs, szI] at hn ⊢; omega) ok.blk h7 h8)
    have := List.all_eq_true.mp h2 j hj
    simpa using this
  | .ms m a b, X, S, k, sc, pe, hn, ok, h, _ => by
    unfold ckE at h
    split at h <;> try cases h
    rename_i pa x apos pb pos
    simp only [Bool.and_eq_true, decide_eq_true_eq] at h
    obtain ⟨⟨⟨⟨⟨h1, h2⟩, h3⟩, h4⟩, h5⟩, h6⟩ := h
    cases m <;> first | cases (show false = true from h1) | skip
    · have hx : x = ("split" : Str) := of_decide_eq_true h1
      subst hx
      have hb := ih.B (by simp only [sz, szs, szI] at hn ⊢; omega) ok h6
      have ha := ih.B (by simp only [sz, szs, szI] at hn ⊢; omega) ok h5
      cases pa <;> first | cases (show false = true from h2) | exact e_split h3 ha hb rfl (by rw [h4]; exact beq_self_eq_true _)
    · have hx : x = ("join" : Str) := of_decide_eq_true h1
      subst hx
      have hb := ih.B (by simp only [sz, szs, szI] at hn ⊢; omega) ok h6
      have ha := ih.B (by simp only [sz, szs, szI] at hn ⊢; omega) ok h5
      cases pa <;> first | cases (show false = true from h2) | exact e_join ok.K h3 ha hb rfl (by rw [h4]; exact beq_self_eq_true _)
  | .var _, _, _, _, _, _, hn, _, _, h => by cases h
  | .varB _, _, _, _, _, _, hn, _, _, h => by cases h
  | .cst _, _, _, _, _, _, hn, _, _, h => by cases h
  | .glo _ _, _, _, _, _, _, hn, _, _, h => by cases h
  | .neg _, _, _, _, _, _, hn, _, _, h => by cases h
  | .not _, _, _, _, _, _, hn, _, _, h => by cases h
  | .and _ _, _, _, _, _, _, hn, _, _, h => by cases h
  | .or _ _, _, _, _, _, _, hn, _, _, h => by cases h
  | .cmp _ _ _, _, _, _, _, _, hn, _, _, h => by cases h
  | .isd _ _ _, _, _, _, _, _, hn, _, _, h => by cases h
  | .chain _ _ _ _ _, _, _, _, _, _, hn, _, _, h => by cases h
  | .ite _ _ _, _, _, _, _, _, hn, _, _, h => by cases h
  | .tup _, _, _, _, _, _, hn, _, _, h => by cases h
  | .idx _ _, _, _, _, _, _, hn, _, _, h => by cases h
  | .idxC _ _, _, _, _, _, _, hn, _, _, h => by cases h
  | .popC _ _, _, _, _, _, _, hn, _, _, h => by cases h
  | .lenC _, _, _, _, _, _, hn, _, _, h => by cases h
  | .idx2 _ _ _, _, _, _, _, _, hn, _, _, h => by cases h
  | .orv _ _, _, _, _, _, _, hn, _, _, h => by cases h
  | .rev _, _, _, _, _, _, hn, _, _, h => by cases h
  | .call _ _, _, _, _, _, _, hn, _, _, h => by cases h
  | .callB _ _, _, _, _, _, _, hn, _, _, h => by cases h
  | .sel _ _ _, _, _, _, _, _, hn, _, _, h => by cases h
  | .lof _, _, _, _, _, _, hn, _, _, h => by cases h
  | .isi _ _, _, _, _, _, _, hn, _, _, h => by cases h
  | .m0 _ _, _, _, _, _, _, hn, _, _, h => by cases h
  | .m1 _ _ _, _, _, _, _, _, hn, _, _, h => by cases h
  | .m2 _ _ _ _, _, _, _, _, _, hn, _, _, h => by cases h
  | .dgd _ _ _, _, _, _, _, _, hn, _, _, h => by cases h
  | .dix _ _, _, _, _, _, _, hn, _, _, h => by cases h
  | .mnd _, _, _, _, _, _, hn, _, _, h => by cases h
  | .dg2 _ _ _ _ _, _, _, _, _, _, hn, _, _, h => by cases h
  | .lend _ _ _, _, _, _, _, _, hn, _, _, h => by cases h
theorem sE_ {n : Nat} (ih : All tx N n) : ∀ {e : E} {X : Cx} {S : Sg} {k : Nat} {sc : Scope} {pe : Expr}, sz e < n + 1 → XOk tx N X S k sc → ckE tx N sc e pe = true → noB e = true → PE X pe (tF S e)
  | .var i, X, S, k, sc, pe, hn, ok, h, _ => by
    unfold ckE at h
    split at h <;> try cases h
    simp only [Bool.and_eq_true, decide_eq_true_eq] at h
    obtain ⟨h1, h2⟩ := nmB_ok h.2
    exact e_var (by rw [ok.N_]; exact h.1.1) (by rw [ok.sc_]; exact visB_ok h.1.2) h1 h2
  | .cst d, X, S, k, sc, pe, hn, ok, h, _ => by
    unfold ckE at h
    split at h <;> try cases h
    exact cst_e h
  | .glo x d, X, S, k, sc, pe, hn, ok, h, _ => by
    unfold ckE at h
    split at h <;> try cases h
    rename_i y p
    simp only [Bool.and_eq_true, decide_eq_true_eq, List.any_eq_true] at h
    obtain ⟨⟨⟨rfl, h1⟩, h2⟩, q, hq, h3, h4⟩ := h
    have e := beqD_eq h4
    obtain ⟨v, u, g1, g2, g3⟩ := ok.glos q hq
    rw [h3] at g1
    rw [e] at g3
    exact e_glo (ok.gl h1) g1 g2 (nmB_ok h2).1 (by rw [← ok.K]; exact g3)
  | .neg a, X, S, k, sc, pe, hn, ok, h, _ => by
    unfold ckE at h
    split at h <;> try cases h
    simp only [Bool.and_eq_true, decide_eq_true_eq] at h
    obtain ⟨⟨rfl, h1⟩, h2⟩ := h
    exact e_neg (ih.E (by simp only [sz, szs, szI] at hn ⊢; omega) ok h1 h2)
  | .not a, X, S, k, sc, pe, hn, ok, h, _ => by
    unfold ckE at h
    split at h <;> try cases h
    simp only [Bool.and_eq_true, decide_eq_true_eq] at h
    obtain ⟨⟨⟨rfl, h1⟩, h2⟩, _⟩ := h
    exact e_not (ih.E (by simp only [sz, szs, szI] at hn ⊢; omega) ok h1 h2)
  | .and a b, X, S, k, sc, pe, hn, ok, h, _ => by
    unfold ckE at h
    split at h <;> try cases h
    simp only [Bool.and_eq_true, decide_eq_true_eq] at h
    obtain ⟨rfl, h⟩ := h
    split at h <;> try cases h
    · simp only [Bool.and_eq_true] at h
      obtain ⟨⟨⟨⟨⟨h1, h2⟩, _⟩, h3⟩, h4⟩, _⟩ := h
      exact e_and (ih.E (by simp only [sz, szs, szI] at hn ⊢; omega) ok h1 h2) (pe_one (ih.E (by simp only [sz, szs, szI] at hn ⊢; omega) ok h3 h4))
    · simp only [Bool.and_eq_true] at h
      obtain ⟨⟨⟨⟨h1, h2⟩, _⟩, h3⟩, h4⟩ := h
      exact e_and (ih.E (by simp only [sz, szs, szI] at hn ⊢; omega) ok h1 h2) (ih.E (by simp only [sz, szs, szI] at hn ⊢; omega) ok h3 h4)
  | .or a b, X, S, k, sc, pe, hn, ok, h, _ => by
    unfold ckE at h
    split at h <;> try cases h
    simp only [Bool.and_eq_true, decide_eq_true_eq] at h
    obtain ⟨rfl, h⟩ := h
    split at h <;> try cases h
    · simp only [Bool.and_eq_true] at h
      obtain ⟨⟨⟨⟨⟨h1, h2⟩, _⟩, h3⟩, h4⟩, _⟩ := h
      exact e_or (ih.E (by simp only [sz, szs, szI] at hn ⊢; omega) ok h1 h2) (pe_one (ih.E (by simp only [sz, szs, szI] at hn ⊢; omega) ok h3 h4))
    · simp only [Bool.and_eq_true] at h
      obtain ⟨⟨⟨⟨h1, h2⟩, _⟩, h3⟩, h4⟩ := h
      exact e_or (ih.E (by simp only [sz, szs, szI] at hn ⊢; omega) ok h1 h2) (ih.E (by simp only [sz, szs, szI] at hn ⊢; omega) ok h3 h4)
  | .cmp o a b, X, S, k, sc, pe, hn, ok, h, _ => by
    unfold ckE at h
    split at h <;> try cases h
    split at h <;> try cases h
    simp only [Bool.and_eq_true, decide_eq_true_eq] at h
    obtain ⟨⟨⟨rfl, h1⟩, h2⟩, h3⟩ := h
    exact e_cmp ok.K ok.hu (ih.B (by simp only [sz, szs, szI] at hn ⊢; omega) ok h2) (ih.B (by simp only [sz, szs, szI] at hn ⊢; omega) ok h3) (by simpa using h1)
  | .isd a d q, X, S, k, sc, pe, hn, ok, h, _ => by
    unfold ckE at h
    split at h <;> try cases h
    split at h <;> try cases h
    simp only [Bool.and_eq_true, decide_eq_true_eq] at h
    obtain ⟨⟨⟨rfl, h1⟩, h2⟩, h3⟩ := h
    rename_i c _ _ 
    cases d <;> try cases h2
    · cases c <;> simp [cstB] at h1
      cases q
      · exact e_notN (ih.B (by simp only [sz, szs, szI] at hn ⊢; omega) ok h3)
      · exact e_isN (ih.B (by simp only [sz, szs, szI] at hn ⊢; omega) ok h3)
    · cases c <;> simp [cstB] at h1
      subst h1
      cases q
      · exact e_notBl (ih.B (by simp only [sz, szs, szI] at hn ⊢; omega) ok h3)
      · exact e_isBl (ih.B (by simp only [sz, szs, szI] at hn ⊢; omega) ok h3)
  | .chain o p a b c, X, S, k, sc, pe, hn, ok, h, _ => by
    unfold ckE at h
    split at h <;> try cases h
    split at h <;> try cases h
    simp only [Bool.and_eq_true, decide_eq_true_eq] at h
    obtain ⟨⟨⟨⟨⟨rfl, rfl⟩, h1⟩, h2⟩, h3⟩, h4⟩ := h
    exact e_chain ok.K ok.hu (ih.B (by simp only [sz, szs, szI] at hn ⊢; omega) ok h2) (ih.B (by simp only [sz, szs, szI] at hn ⊢; omega) ok h3) (ih.B (by simp only [sz, szs, szI] at hn ⊢; omega) ok h4) (by simpa using h1)
  | .ite c a b, X, S, k, sc, pe, hn, ok, h, _ => by
    unfold ckE at h
    split at h <;> try cases h
    simp only [Bool.and_eq_true] at h
    obtain ⟨⟨⟨⟨⟨⟨h1, h2⟩, h3⟩, h4⟩, h5⟩, h6⟩, h7⟩ := h
    exact e_ite (ih.T (by simp only [sz, szs, szI] at hn ⊢; omega) ok h1 h2 h3) (ih.E (by simp only [sz, szs, szI] at hn ⊢; omega) ok h4 h5) (ih.E (by simp only [sz, szs, szI] at hn ⊢; omega) ok h6 h7)
  | .tup es, X, S, k, sc, pe, hn, ok, h, _ => by
    unfold ckE at h
    split at h <;> try cases h
    rw [Bool.and_eq_true] at h
    exact e_tup (ih.Fs (by simp only [sz, szs, szI] at hn ⊢; omega) ok h.1 h.2)
  | .idx a b, X, S, k, sc, pe, hn, ok, h, _ => by
    unfold ckE at h
    split at h <;> try cases h
    simp only [Bool.and_eq_true] at h
    exact e_idx ok.K (plainIx_of h.1.1) (ih.B (by simp only [sz, szs, szI] at hn ⊢; omega) ok h.1.2) (ih.B (by simp only [sz, szs, szI] at hn ⊢; omega) ok h.2)
  | .idxC a b, X, S, k, sc, pe, hn, ok, h, _ => by
    unfold ckE at h
    split at h <;> try cases h
    simp only [Bool.and_eq_true] at h
    exact e_idxC ok.K (plainIx_of h.1.1) (ih.B (by simp only [sz, szs, szI] at hn ⊢; omega) ok h.1.2) (ih.B (by simp only [sz, szs, szI] at hn ⊢; omega) ok h.2)
  | .call f es, X, S, k, sc, pe, hn, ok, h, _ => by
    unfold ckE at h
    split at h <;> try cases h
    rename_i x p ps ks p2
    simp only [Bool.and_eq_true, decide_eq_true_eq] at h
    obtain ⟨⟨⟨⟨⟨h1, h2⟩, h3⟩, h4⟩, h6⟩, h7⟩ := h
    have := noKw_nil h1; subst this
    cases ps with
    | nil =>
      have := ckEs_nil h6; subst this
      exact e_call0 (ok.fns f x h2) ok.room ok.tk (ok.gl h3) (nmB_ok h4).1
    | cons p0 ps => exact e_call (ok.fns f x h2) ok.room ok.tk (ok.gl h3) (nmB_ok h4).1 (ckEs_star h6) (ih.Fs (by simp only [sz, szs, szI] at hn ⊢; omega) ok h6 h7)
  | .callB f es, X, S, k, sc, pe, hn, ok, h, _ => by
    unfold ckE at h
    split at h <;> try cases h
    rename_i x p ps ks p2
    simp only [Bool.and_eq_true, decide_eq_true_eq] at h
    obtain ⟨⟨⟨⟨⟨h1, h2⟩, h3⟩, h4⟩, h5⟩, h6⟩ := h
    have := noKw_nil h1; subst this
    cases ps with
    | nil => cases h5
    | cons p0 ps => exact e_callB (ok.fns f x h2) ok.room ok.tk (ok.gl h3) (nmB_ok h4).1 (ckEs_star h6) (ih.Bs (by simp only [sz, szs, szI] at hn ⊢; omega) ok h6)
  | .isi a ts, X, S, k, sc, pe, hn, ok, h, _ => by
    unfold ckE at h
    split at h <;> try cases h
    simp only [Bool.and_eq_true] at h
    obtain ⟨⟨h1, h2⟩, h⟩ := h
    have := noKw_nil h1; subst this
    obtain ⟨rfl, g1, g2⟩ := ok.blt h2 (by decide)
    split at h <;> try cases h
    · simp only [Bool.and_eq_true] at h
      obtain ⟨⟨h3, h4⟩, h5⟩ := h
      obtain ⟨rfl, g3, g4⟩ := ok.blt h3 (ty_mem _)
      exact e_isi1 ok.K g1 g2 g3 g4 h4 (ih.B (by simp only [sz, szs, szI] at hn ⊢; omega) ok h5)
    · simp only [Bool.and_eq_true] at h
      obtain ⟨⟨⟨h3, h4⟩, h5⟩, h6⟩ := h
      obtain ⟨rfl, g3, g4⟩ := ok.blt h3 (ty_mem _)
      obtain ⟨rfl, g5, g6⟩ := ok.blt h4 (ty_mem _)
      exact e_isi2 ok.K g1 g2 g3 g4 g5 g6 h5 (ih.B (by simp only [sz, szs, szI] at hn ⊢; omega) ok h6)
  | .bin o a b, X, S, k, sc, pe, hn, ok, h, _ => (sN_ ih hn ok h rfl).toF
  | .lst es, X, S, k, sc, pe, hn, ok, h, _ => (sN_ ih hn ok h rfl).toF
  | .dic0, X, S, k, sc, pe, hn, ok, h, _ => (sN_ ih hn ok h rfl).toF
  | .sl a b c, X, S, k, sc, pe, hn, ok, h, _ => (sN_ ih hn ok h rfl).toF
  | .slF a b, X, S, k, sc, pe, hn, ok, h, _ => (sN_ ih hn ok h rfl).toF
  | .slT a b, X, S, k, sc, pe, hn, ok, h, _ => (sN_ ih hn ok h rfl).toF
  | .b1 bi a, X, S, k, sc, pe, hn, ok, h, _ => (sN_ ih hn ok h rfl).toF
  | .b2 bi a b, X, S, k, sc, pe, hn, ok, h, _ => (sN_ ih hn ok h rfl).toF
  | .comp elt t it cond own, X, S, k, sc, pe, hn, ok, h, _ => (sN_ ih hn ok h rfl).toF
  | .ms m a b, X, S, k, sc, pe, hn, ok, h, _ => (sN_ ih hn ok h rfl).toF
  | .varB _, _, _, _, _, _, hn, _, _, h => by cases h
  | .popC a b, X, S, k, sc, pe, hn, ok, h, _ => by
    unfold ckE at h
    split at h <;> try cases h
    rename_i pa x apos pb pos
    simp only [Bool.and_eq_true, decide_eq_true_eq] at h
    obtain ⟨⟨⟨⟨⟨rfl, h2⟩, h3⟩, h4⟩, h5⟩, h6⟩ := h
    cases pa <;> try cases h2
    exact e_popC ok.K h3 (ih.B (by simp only [sz, szs, szI] at hn ⊢; omega) ok h5) (ih.B (by simp only [sz, szs, szI] at hn ⊢; omega) ok h6) rfl (by rw [h4]; exact beq_self_eq_true _) (few1 h3)
  | .lenC a, X, S, k, sc, pe, hn, ok, h, _ => by
    unfold ckE at h
    split at h <;> try cases h
    simp only [Bool.and_eq_true] at h
    obtain ⟨⟨⟨h1, h2⟩, h3⟩, h4⟩ := h
    have := noKw_nil h1; subst this
    obtain ⟨rfl, g1, g2⟩ := ok.blt h2 (by decide)
    exact e_lenC g1 g2 h3 (ih.B (by simp only [sz, szs, szI] at hn ⊢; omega) ok h4) ok.K
  | .idx2 i a b, X, S, k, sc, pe, hn, ok, h, _ => by
    unfold ckE at h
    split at h <;> try cases h
    simp only [Bool.and_eq_true, decide_eq_true_eq] at h
    obtain ⟨⟨⟨⟨⟨⟨h1, h2⟩, h3⟩, h4⟩, h5⟩, h6⟩, h7⟩ := h
    exact e_idx2 ok.K (by rw [ok.N_]; exact h1) (by rw [ok.sc_]; exact visB_ok h2) (nmB_ok h3).1 (nmB_ok h3).2 h4 h5 (ih.B (by simp only [sz, szs, szI] at hn ⊢; omega) ok h6) (ih.B (by simp only [sz, szs, szI] at hn ⊢; omega) ok h7)
  | .orv _ _, _, _, _, _, _, _, _, _, hb => by cases hb
  | .rev a, X, S, k, sc, pe, hn, ok, h, _ => by
    unfold ckE at h
    split at h <;> try cases h
    exact (e_rev ok.K (ih.B (by simp only [sz, szs, szI] at hn ⊢; omega) ok h) ((pe_un un_neg pe_int).mono fun σ H Q q => ⟨1, rfl, q⟩)).toF
  | .sel fs ke es, X, S, k, sc, pe, hn, ok, h, _ => by
    unfold ckE at h
    split at h <;> try cases h
    simp only [Bool.and_eq_true, decide_eq_true_eq] at h
    obtain ⟨⟨⟨⟨⟨⟨h1, h2⟩, h3⟩, h4⟩, h5⟩, h6⟩, h7⟩ := h
    have := noKw_nil h1; subst this
    exact (w_sel ok h2 h3 (plainIx_of h4) (ih.B (by simp only [sz, szs, szI] at hn ⊢; omega) ok h5) (ckEs_star h6) (ih.Fs (by simp only [sz, szs, szI] at hn ⊢; omega) ok h6 h7)).mono fun _ _ _ => tW_Fs
  | .lof it, X, S, k, sc, pe, hn, ok, h, _ => by
    unfold ckE at h
    split at h <;> try cases h
    simp only [Bool.and_eq_true, decide_eq_true_eq] at h
    obtain ⟨⟨⟨h1, h3⟩, hr⟩, h⟩ := h
    have := noKw_nil h1; subst this
    obtain ⟨rfl, q1, q2⟩ := ok.blt h3 (by decide)
    cases it with
    | r1 a =>
      unfold ckI at h
      split at h <;> try cases h
      simp only [Bool.and_eq_true, decide_eq_true_eq] at h
      obtain ⟨⟨⟨⟨h2, h4⟩, h5⟩, h6⟩, h7⟩ := h
      have := noKw_nil h2; subst this
      obtain ⟨rfl, q3, q4⟩ := ok.blt h4 (by decide)
      exact (e_lof1 ok.calm q1 q2 q3 q4 h5 (ih.E (by simp only [sz, szs, szI] at hn ⊢; omega) ok h6 h7)).toF
    | _ => cases hr
  | .m0 m a, X, S, k, sc, pe, hn, ok, h, _ => by
    unfold ckE at h
    split at h <;> try cases h
    rename_i pa x apos pos
    simp only [Bool.and_eq_true, decide_eq_true_eq] at h
    obtain ⟨⟨⟨h1, h2⟩, h3⟩, h4⟩ := h
    cases m <;> first | cases (show false = true from h1) | skip
    have hx : x = ("upper" : Str) := of_decide_eq_true h1
    subst hx
    cases pa <;> try cases h2
    exact e_upper (ih.B (by simp only [sz, szs, szI] at hn ⊢; omega) ok h4) rfl (by rw [h3]; exact beq_self_eq_true _)
  | .m1 m a b, X, S, k, sc, pe, hn, ok, h, _ => by
    unfold ckE at h
    split at h <;> try cases h
    rename_i pa x apos pb pos
    simp only [Bool.and_eq_true, decide_eq_true_eq] at h
    obtain ⟨⟨⟨⟨⟨h1, h2⟩, h3⟩, h4⟩, h5⟩, h6⟩ := h
    cases m <;> first | cases (show false = true from h1) | skip
    · have hx : x = ("count" : Str) := of_decide_eq_true h1
      subst hx
      cases pa <;> try cases h2
      exact e_count ok.K ok.hu h3 (ih.B (by simp only [sz, szs, szI] at hn ⊢; omega) ok h5) (ih.B (by simp only [sz, szs, szI] at hn ⊢; omega) ok h6) rfl (by rw [h4]; exact beq_self_eq_true _) (few1 h3)
    have hx : x = ("index" : Str) := of_decide_eq_true h1
    subst hx
    cases pa <;> try cases h2
    exact e_index ok.K h3 (ih.B (by simp only [sz, szs, szI] at hn ⊢; omega) ok h5) (ih.B (by simp only [sz, szs, szI] at hn ⊢; omega) ok h6) rfl (by rw [h4]; exact beq_self_eq_true _) (few1 h3)
  | .m2 _ _ _ _, _, _, _, _, _, hn, _, h, _ => by unfold ckE at h; cases h
  | .lend f i b, X, S, k, sc, pe, hn, ok, h, _ => by
    unfold ckE at h
    split at h <;> try cases h
    rename_i x p y p1 pb ks p2
    simp only [Bool.and_eq_true, decide_eq_true_eq] at h
    obtain ⟨⟨⟨⟨⟨⟨⟨⟨⟨h1, h2⟩, h3⟩, h4⟩, h5⟩, h6⟩, h7⟩, h8⟩, h9⟩, h10⟩ := h
    have := noKw_nil h1; subst this
    exact e_lend (ok.fns f x h2) ok.room ok.tk (ok.gl h3) (nmB_ok h4).1 (by rw [ok.N_]; exact h5) (by rw [ok.sc_]; exact visB_ok h6) (nmB_ok h7).1 (nmB_ok h7).2 h8 (ih.E (by simp only [sz, szs, szI] at hn ⊢; omega) ok h9 h10)
  | .dgd a b c, X, S, k, sc, pe, hn, ok, h, _ => by
    unfold ckE at h
    split at h <;> try cases h
    simp only [Bool.and_eq_true, decide_eq_true_eq] at h
    obtain ⟨⟨⟨⟨⟨⟨⟨⟨rfl, h1⟩, h2⟩, h3⟩, h4⟩, h5⟩, h6⟩, h7⟩, h8⟩ := h
    rename_i pa apos pb pc pos
    cases pa <;> first | cases (show false = true from h1) | exact e_dgd (by have := ok.hu; omega) (ih.B (by simp only [sz, szs, szI] at hn ⊢; omega) ok h5) (ih.B (by simp only [sz, szs, szI] at hn ⊢; omega) ok h6) (ih.E (by simp only [sz, szs, szI] at hn ⊢; omega) ok h7 h8) ⟨rfl, by rw [star_cons h2, star_cons h3]; rfl, by rw [h4]; exact beq_self_eq_true _, by rw [star_cons h2, star_cons h3]; rfl⟩
  | .dix a b, X, S, k, sc, pe, hn, ok, h, _ => by
    unfold ckE at h
    split at h <;> try cases h
    simp only [Bool.and_eq_true] at h
    obtain ⟨⟨h1, h2⟩, h3⟩ := h
    exact e_dix (by have := ok.hu; omega) h1 (ih.B (by simp only [sz, szs, szI] at hn ⊢; omega) ok h2) (ih.B (by simp only [sz, szs, szI] at hn ⊢; omega) ok h3)
  | .mnd a, X, S, k, sc, pe, hn, ok, h, _ => by
    unfold ckE at h
    split at h <;> try cases h
    simp only [Bool.and_eq_true, decide_eq_true_eq] at h
    obtain ⟨⟨⟨h1, rfl⟩, h2⟩, h3⟩ := h
    obtain ⟨rfl, q1, q2⟩ := ok.blt h1 (by decide)
    exact (e_mnd ok.calm ok.hu ok.K q1 q2 h2 (ih.B (by simp only [sz, szs, szI] at hn ⊢; omega) ok h3)).toF
  | .dg2 k1 k2 a b c, X, S, k, sc, pe, hn, ok, h, _ => by
    unfold ckE at h
    split at h <;> try cases h
    simp only [Bool.and_eq_true, decide_eq_true_eq] at h
    obtain ⟨⟨⟨⟨⟨⟨⟨⟨⟨rfl, rfl⟩, rfl⟩, h1⟩, h2⟩, h3⟩, h4⟩, h5⟩, h6⟩, h7⟩ := h
    exact e_dg2 ok.hu (ih.E (by simp only [sz, szs, szI] at hn ⊢; omega) ok h3 h4) (ih.E (by simp only [sz, szs, szI] at hn ⊢; omega) ok h5 h6) (ih.B (by simp only [sz, szs, szI] at hn ⊢; omega) ok h7) ⟨rfl, by rw [star_cons h1]; rfl, by rw [h2]; exact beq_self_eq_true _, by rw [star_cons h1]; rfl⟩
theorem sT_ {n : Nat} (ih : All tx N n) : ∀ {e : E} {X : Cx} {S : Sg} {k : Nat} {sc : Scope} {pe : Expr}, sz e < n + 1 → XOk tx N X S k sc → ckE tx N sc e pe = true → noB e = true → noIf pe = true → PT X pe (tT S e)
  | .not a, X, S, k, sc, pe, hn, ok, h, _, _ => by
    unfold ckE at h
    split at h <;> try cases h
    simp only [Bool.and_eq_true, decide_eq_true_eq] at h
    obtain ⟨⟨⟨rfl, h1⟩, h2⟩, h3⟩ := h
    exact t_not (ih.T (by simp only [sz, szs, szI] at hn ⊢; omega) ok h1 h2 h3)
  | .and a b, X, S, k, sc, pe, hn, ok, h, hb, _ => by
    unfold ckE at h
    split at h <;> try cases h
    simp only [Bool.and_eq_true, decide_eq_true_eq] at h
    obtain ⟨rfl, h⟩ := h
    split at h <;> try cases h
    · simp only [Bool.and_eq_true] at h
      obtain ⟨⟨⟨⟨⟨h1, h2⟩, h3⟩, h4⟩, h5⟩, h6⟩ := h
      exact (w_and (ih.T (by simp only [sz, szs, szI] at hn ⊢; omega) ok h1 h2 h3) (w_and1 (ih.T (by simp only [sz, szs, szI] at hn ⊢; omega) ok h4 h5 h6))).pt
    · simp only [Bool.and_eq_true] at h
      obtain ⟨⟨⟨⟨h1, h2⟩, h3⟩, h4⟩, h5⟩ := h
      exact (w_and (ih.T (by simp only [sz, szs, szI] at hn ⊢; omega) ok h1 h2 h3) (ih.W (by simp only [sz, szs, szI] at hn ⊢; omega) ok h4 h5)).pt
  | .or a b, X, S, k, sc, pe, hn, ok, h, hb, _ => by
    unfold ckE at h
    split at h <;> try cases h
    simp only [Bool.and_eq_true, decide_eq_true_eq] at h
    obtain ⟨rfl, h⟩ := h
    split at h <;> try cases h
    · simp only [Bool.and_eq_true] at h
      obtain ⟨⟨⟨⟨⟨h1, h2⟩, h3⟩, h4⟩, h5⟩, h6⟩ := h
      exact (w_or (ih.T (by simp only [sz, szs, szI] at hn ⊢; omega) ok h1 h2 h3) (w_or1 (ih.T (by simp only [sz, szs, szI] at hn ⊢; omega) ok h4 h5 h6))).pt
    · simp only [Bool.and_eq_true] at h
      obtain ⟨⟨⟨⟨h1, h2⟩, h3⟩, h4⟩, h5⟩ := h
      exact (w_or (ih.T (by simp only [sz, szs, szI] at hn ⊢; omega) ok h1 h2 h3) (ih.W (by simp only [sz, szs, szI] at hn ⊢; omega) ok h4 h5)).pt
  | .cmp o a b, X, S, k, sc, pe, hn, ok, h, _, _ => by
    unfold ckE at h
    split at h <;> try cases h
    split at h <;> try cases h
    simp only [Bool.and_eq_true, decide_eq_true_eq] at h
    obtain ⟨⟨⟨rfl, h1⟩, h2⟩, h3⟩ := h
    exact t_cmp ok.K ok.hu (ih.B (by simp only [sz, szs, szI] at hn ⊢; omega) ok h2) (ih.B (by simp only [sz, szs, szI] at hn ⊢; omega) ok h3) (by simpa using h1)
  | .isd a d q, X, S, k, sc, pe, hn, ok, h, hb0, hi0 => by
    unfold ckE at h
    split at h <;> try cases h
    split at h <;> try cases h
    simp only [Bool.and_eq_true, decide_eq_true_eq] at h
    obtain ⟨⟨⟨rfl, h1⟩, h2⟩, h3⟩ := h
    rename_i c _ _
    cases d <;> try cases h2
    · cases c <;> simp [cstB] at h1
      cases q
      · exact t_notN (ih.B (by simp only [sz, szs, szI] at hn ⊢; omega) ok h3)
      · exact t_isN (ih.B (by simp only [sz, szs, szI] at hn ⊢; omega) ok h3)
    · cases c <;> simp [cstB] at h1
      subst h1
      cases q
      · exact t_notBl (ih.B (by simp only [sz, szs, szI] at hn ⊢; omega) ok h3)
      · exact t_isBl (ih.B (by simp only [sz, szs, szI] at hn ⊢; omega) ok h3)
  | .chain o p a b c, X, S, k, sc, pe, hn, ok, h, _, _ => by
    unfold ckE at h
    split at h <;> try cases h
    split at h <;> try cases h
    simp only [Bool.and_eq_true, decide_eq_true_eq] at h
    obtain ⟨⟨⟨⟨⟨rfl, rfl⟩, h1⟩, h2⟩, h3⟩, h4⟩ := h
    exact t_chain ok.K ok.hu (ih.B (by simp only [sz, szs, szI] at hn ⊢; omega) ok h2) (ih.B (by simp only [sz, szs, szI] at hn ⊢; omega) ok h3) (ih.B (by simp only [sz, szs, szI] at hn ⊢; omega) ok h4) (by simpa using h1)
  | .var _, _, _, _, _, _, hn, ok, h, hb, hi => t_val (sE_ ih hn ok h hb) (isTrue_of (plain_of h rfl hi))
  | .varB _, _, _, _, _, _, hn, ok, h, hb, hi => by cases hb
  | .cst _, _, _, _, _, _, hn, ok, h, hb, hi => t_val (sE_ ih hn ok h hb) (isTrue_of (plain_of h rfl hi))
  | .glo _ _, _, _, _, _, _, hn, ok, h, hb, hi => t_val (sE_ ih hn ok h hb) (isTrue_of (plain_of h rfl hi))
  | .bin _ _ _, _, _, _, _, _, hn, ok, h, hb, hi => t_val (sE_ ih hn ok h hb) (isTrue_of (plain_of h rfl hi))
  | .neg _, _, _, _, _, _, hn, ok, h, hb, hi => t_val (sE_ ih hn ok h hb) (isTrue_of (plain_of h rfl hi))
  | .ite _ _ _, _, _, _, _, _, hn, ok, h, hb, hi => t_val (sE_ ih hn ok h hb) (isTrue_of (plain_of h rfl hi))
  | .tup _, _, _, _, _, _, hn, ok, h, hb, hi => t_val (sE_ ih hn ok h hb) (isTrue_of (plain_of h rfl hi))
  | .lst _, _, _, _, _, _, hn, ok, h, hb, hi => t_val (sE_ ih hn ok h hb) (isTrue_of (plain_of h rfl hi))
  | .dic0, _, _, _, _, _, hn, ok, h, hb, hi => t_val (sE_ ih hn ok h hb) (isTrue_of (plain_of h rfl hi))
  | .idx _ _, _, _, _, _, _, hn, ok, h, hb, hi => t_val (sE_ ih hn ok h hb) (isTrue_of (plain_of h rfl hi))
  | .idxC _ _, _, _, _, _, _, hn, ok, h, hb, hi => t_val (sE_ ih hn ok h hb) (isTrue_of (plain_of h rfl hi))
  | .popC _ _, _, _, _, _, _, hn, ok, h, hb, hi => t_val (sE_ ih hn ok h hb) (isTrue_of (plain_of h rfl hi))
  | .lenC _, _, _, _, _, _, hn, ok, h, hb, hi => t_val (sE_ ih hn ok h hb) (isTrue_of (plain_of h rfl hi))
  | .idx2 _ _ _, _, _, _, _, _, hn, ok, h, hb, hi => t_val (sE_ ih hn ok h hb) (isTrue_of (plain_of h rfl hi))
  | .orv _ _, _, _, _, _, _, _, _, _, hb, _ => by cases hb
  | .sl _ _ _, _, _, _, _, _, hn, ok, h, hb, hi => t_val (sE_ ih hn ok h hb) (isTrue_of (plain_of h rfl hi))
  | .slF _ _, _, _, _, _, _, hn, ok, h, hb, hi => t_val (sE_ ih hn ok h hb) (isTrue_of (plain_of h rfl hi))
  | .slT _ _, _, _, _, _, _, hn, ok, h, hb, hi => t_val (sE_ ih hn ok h hb) (isTrue_of (plain_of h rfl hi))
  | .rev _, _, _, _, _, _, hn, ok, h, hb, hi => t_val (sE_ ih hn ok h hb) (isTrue_of (plain_of h rfl hi))
  | .call _ _, _, _, _, _, _, hn, ok, h, hb, hi => t_val (sE_ ih hn ok h hb) (isTrue_of (plain_of h rfl hi))
  | .callB _ _, _, _, _, _, _, hn, ok, h, hb, hi => t_val (sE_ ih hn ok h hb) (isTrue_of (plain_of h rfl hi))
  | .sel _ _ _, _, _, _, _, _, hn, ok, h, hb, hi => t_val (sE_ ih hn ok h hb) (isTrue_of (plain_of h rfl hi))
  | .b1 _ _, _, _, _, _, _, hn, ok, h, hb, hi => t_val (sE_ ih hn ok h hb) (isTrue_of (plain_of h rfl hi))
  | .b2 _ _ _, _, _, _, _, _, hn, ok, h, hb, hi => t_val (sE_ ih hn ok h hb) (isTrue_of (plain_of h rfl hi))
  | .lof _, _, _, _, _, _, hn, ok, h, hb, hi => t_val (sE_ ih hn ok h hb) (isTrue_of (plain_of h rfl hi))
  | .isi _ _, _, _, _, _, _, hn, ok, h, hb, hi => t_val (sE_ ih hn ok h hb) (isTrue_of (plain_of h rfl hi))
  | .m0 _ _, _, _, _, _, _, hn, ok, h, hb, hi => t_val (sE_ ih hn ok h hb) (isTrue_of (plain_of h rfl hi))
  | .m1 _ _ _, _, _, _, _, _, hn, ok, h, hb, hi => t_val (sE_ ih hn ok h hb) (isTrue_of (plain_of h rfl hi))
  | .ms _ _ _, _, _, _, _, _, hn, ok, h, hb, hi => t_val (sE_ ih hn ok h hb) (isTrue_of (plain_of h rfl hi))
  | .m2 _ _ _ _, _, _, _, _, _, hn, ok, h, hb, hi => t_val (sE_ ih hn ok h hb) (isTrue_of (plain_of h rfl hi))
  | .dgd _ _ _, _, _, _, _, _, hn, ok, h, hb, hi => t_val (sE_ ih hn ok h hb) (isTrue_of (plain_of h rfl hi))
  | .dix _ _, _, _, _, _, _, hn, ok, h, hb, hi => t_val (sE_ ih hn ok h hb) (isTrue_of (plain_of h rfl hi))
  | .mnd _, _, _, _, _, _, hn, ok, h, hb, hi => t_val (sE_ ih hn ok h hb) (isTrue_of (plain_of h rfl hi))
  | .dg2 _ _ _ _ _, _, _, _, _, _, hn, ok, h, hb, hi => t_val (sE_ ih hn ok h hb) (isTrue_of (plain_of h rfl hi))
  | .lend _ _ _, _, _, _, _, _, hn, ok, h, hb, hi => t_val (sE_ ih hn ok h hb) (isTrue_of (plain_of h rfl hi))
  | .comp _ _ _ _ _, _, _, _, _, _, hn, ok, h, hb, hi => t_val (sE_ ih hn ok h hb) (isTrue_of (plain_of h rfl hi))
theorem ck_bool {e : E} {sc : Scope} {op : BoolOp} {vs : List Expr} {p : Pos} (h : ckE tx N sc e (.BoolOp op vs p) = true) (hb : noB e = true) : (∃ a b, e = .and a b) ∨ ∃ a b, e = .or a b := by
  cases e <;> first
    | exact .inl ⟨_, _, rfl⟩
    | exact .inr ⟨_, _, rfl⟩
    | exact absurd hb Bool.false_ne_true
    | (unfold ckE at h; exact absurd h Bool.false_ne_true)
theorem sW_ {n : Nat} (ih : All tx N n) {e : E} {X : Cx} {S : Sg} {k : Nat} {sc : Scope} {op : BoolOp} {vs : List Expr} {p : Pos} (hn : sz e < n + 1) (ok : XOk tx N X S k sc) (h : ckE tx N sc e (.BoolOp op vs p) = true) (hb : noB e = true) : PW X (.BoolOp op vs p) (tT S e) := by
  rcases ck_bool h hb with ⟨a, b, rfl⟩ | ⟨a, b, rfl⟩
  · unfold ckE at h
    simp only [Bool.and_eq_true, decide_eq_true_eq] at h
    obtain ⟨rfl, h⟩ := h
    split at h <;> try cases h
    · simp only [Bool.and_eq_true] at h
      obtain ⟨⟨⟨⟨⟨h1, h2⟩, h3⟩, h4⟩, h5⟩, h6⟩ := h
      exact w_and (ih.T (by simp only [sz, szs, szI] at hn ⊢; omega) ok h1 h2 h3) (w_and1 (ih.T (by simp only [sz, szs, szI] at hn ⊢; omega) ok h4 h5 h6))
    · simp only [Bool.and_eq_true] at h
      obtain ⟨⟨⟨⟨h1, h2⟩, h3⟩, h4⟩, h5⟩ := h
      exact w_and (ih.T (by simp only [sz, szs, szI] at hn ⊢; omega) ok h1 h2 h3) (ih.W (by simp only [sz, szs, szI] at hn ⊢; omega) ok h4 h5)
  · unfold ckE at h
    simp only [Bool.and_eq_true, decide_eq_true_eq] at h
    obtain ⟨rfl, h⟩ := h
    split at h <;> try cases h
    · simp only [Bool.and_eq_true] at h
      obtain ⟨⟨⟨⟨⟨h1, h2⟩, h3⟩, h4⟩, h5⟩, h6⟩ := h
      exact w_or (ih.T (by simp only [sz, szs, szI] at hn ⊢; omega) ok h1 h2 h3) (w_or1 (ih.T (by simp only [sz, szs, szI] at hn ⊢; omega) ok h4 h5 h6))
    · simp only [Bool.and_eq_true] at h
      obtain ⟨⟨⟨⟨h1, h2⟩, h3⟩, h4⟩, h5⟩ := h
      exact w_or (ih.T (by simp only [sz, szs, szI] at hn ⊢; omega) ok h1 h2 h3) (ih.W (by simp only [sz, szs, szI] at hn ⊢; omega) ok h4 h5)
theorem sFs_ {n : Nat} (ih : All tx N n) : ∀ {es : List E} {X : Cx} {S : Sg} {k : Nat} {sc : Scope} {ps : List Expr}, szs es < n + 1 → XOk tx N X S k sc → ckEs tx N sc es ps = true → noBs es = true → PA X ps (tEs S (rFs S.K) es)
  | [], X, S, k, sc, ps, hn, ok, h, _ => by
    unfold ckEs at h
    cases ps <;> first | exact es_nil (fun _ _ _ => rfl) | cases h
  | e :: es, X, S, k, sc, ps, hn, ok, h, hb => by
    unfold ckEs at h
    unfold noBs at hb
    rw [Bool.and_eq_true] at hb
    cases ps with
    | nil => cases h
    | cons p ps =>
      simp only [Bool.and_eq_true] at h
      exact es_consF h.1.1 (ih.E (by simp only [sz, szs, szI] at hn ⊢; omega) ok h.1.2 hb.1) (ih.Fs (by simp only [sz, szs, szI] at hn ⊢; omega) ok h.2 hb.2)
theorem sBs_ {n : Nat} (ih : All tx N n) : ∀ {es : List E} {X : Cx} {S : Sg} {k : Nat} {sc : Scope} {ps : List Expr}, szs es < n + 1 → XOk tx N X S k sc → ckEs tx N sc es ps = true → PA X ps (tEs S (rBs S.K) es)
  | [], X, S, k, sc, ps, hn, ok, h => by
    unfold ckEs at h
    cases ps <;> first | exact es_nil (fun _ _ _ => rfl) | cases h
  | e :: es, X, S, k, sc, ps, hn, ok, h => by
    unfold ckEs at h
    cases ps with
    | nil => cases h
    | cons p ps =>
      simp only [Bool.and_eq_true] at h
      exact es_consB h.1.1 (ih.B (by simp only [sz, szs, szI] at hn ⊢; omega) ok h.1.2) (ih.Bs (by simp only [sz, szs, szI] at hn ⊢; omega) ok h.2)
theorem sC_ {n : Nat} (ih : All tx N n) : ∀ {es : List E} {X : Cx} {S : Sg} {k : Nat} {sc : Scope} {ps : List Expr}, szs es < n + 1 → XOk tx N X S k sc → ckC tx N sc es ps = true → PTs X ps (tTs S es)
  | [], X, S, k, sc, ps, hn, ok, h => by
    unfold ckC at h
    cases ps with
    | nil => exact ⟨fun pins s σ H Q I ⟨g, st, env, at_, q⟩ => pts_nil.run pins s σ H Q I (q g H true (Step.refl _ _) at_.2.1 rfl)⟩
    | cons p ps => cases h
  | e :: es, X, S, k, sc, ps, hn, ok, h => by
    unfold ckC at h
    split at h <;> try cases h
    simp only [Bool.and_eq_true] at h
    obtain ⟨⟨⟨h1, h2⟩, h3⟩, h4⟩ := h
    have q := pts_one (ih.T (by simp only [sz, szs, szI] at hn ⊢; omega) ok h2 h3 h4)
    exact ⟨fun pins s σ H Q I hq => q.run pins s σ H Q I hq⟩
theorem sI_ {n : Nat} (ih : All tx N n) : ∀ {it : I} {X : Cx} {S : Sg} {k : Nat} {sc : Scope} {m : Bool} {tg iter : Expr}, szI it < n + 1 → XOk tx N X S k sc → ckI tx N sc m (isTup tg) it iter = true → PI X tg iter (wI S m it)
  | .of a, X, S, k, sc, m, tg, iter, hn, ok, h => by
    unfold ckI at h
    rw [Bool.and_eq_true] at h
    exact i_of ok.K (rM_F (ih.B (by simp only [sz, szs, szI] at hn ⊢; omega) ok h.1) (fun hb => ih.E (by simp only [sz, szs, szI] at hn ⊢; omega) ok h.1 hb) h.2)
  | .r1 a, X, S, k, sc, m, tg, iter, hn, ok, h => by
    unfold ckI at h
    split at h <;> try cases h
    simp only [Bool.and_eq_true] at h
    obtain ⟨⟨⟨⟨h1, h2⟩, h3⟩, h4⟩, h5⟩ := h
    have := noKw_nil h1; subst this
    obtain ⟨rfl, g1, g2⟩ := ok.blt h2 (by decide)
    exact i_r1 g1 g2 h3 (ih.E (by simp only [sz, szs, szI] at hn ⊢; omega) ok h4 h5)
  | .r2 a b, X, S, k, sc, m, tg, iter, hn, ok, h => by
    unfold ckI at h
    split at h <;> try cases h
    simp only [Bool.and_eq_true] at h
    obtain ⟨⟨⟨⟨⟨h1, h2⟩, h3⟩, h4⟩, h5⟩, h6⟩ := h
    have := noKw_nil h1; subst this
    obtain ⟨rfl, g1, g2⟩ := ok.blt h2 (by decide)
    exact i_r2 g1 g2 h3 h4 (ih.B (by simp only [sz, szs, szI] at hn ⊢; omega) ok h5) (ih.B (by simp only [sz, szs, szI] at hn ⊢; omega) ok h6)
  | .r3 _ _ _, _, _, _, _, _, _, _, hn, ok, h => by unfold ckI at h; cases h
  | .dn a b, X, S, k, sc, m, tg, iter, hn, ok, h => by
    unfold ckI at h
    split at h <;> try cases h
    simp only [Bool.and_eq_true] at h
    obtain ⟨⟨⟨⟨⟨h1, h2⟩, h3⟩, h4⟩, h5⟩, h6⟩ := h
    have := noKw_nil h1; subst this
    obtain ⟨rfl, g1, g2⟩ := ok.blt h2 (by decide)
    exact i_dn g1 g2 h3 h4 (ih.B (by simp only [sz, szs, szI] at hn ⊢; omega) ok h5) (ih.B (by simp only [sz, szs, szI] at hn ⊢; omega) ok h6)
  | .zip a b, X, S, k, sc, m, tg, iter, hn, ok, h => by
    unfold ckI at h
    split at h <;> try cases h
    simp only [Bool.and_eq_true] at h
    obtain ⟨⟨⟨⟨⟨⟨⟨⟨h0, h1⟩, h2⟩, h3⟩, h4⟩, h5⟩, h6⟩, h7⟩, h8⟩ := h
    have := noKw_nil h1; subst this
    obtain ⟨rfl, g1, g2⟩ := ok.blt h2 (by decide)
    cases tg <;> try cases h0
    exact i_zip ok.K g1 g2 h3 h4 (rM_F (ih.B (by simp only [sz, szs, szI] at hn ⊢; omega) ok h5) (fun hb => ih.E (by simp only [sz, szs, szI] at hn ⊢; omega) ok h5 hb) h6) (rM_F (ih.B (by simp only [sz, szs, szI] at hn ⊢; omega) ok h7) (fun hb => ih.E (by simp only [sz, szs, szI] at hn ⊢; omega) ok h7 hb) h8)
  | .zip3 a b c, X, S, k, sc, m, tg, iter, hn, ok, h => by
    unfold ckI at h
    split at h <;> try cases h
    simp only [Bool.and_eq_true] at h
    obtain ⟨⟨⟨⟨⟨⟨⟨⟨⟨⟨⟨h0, h1⟩, h2⟩, h3⟩, h4⟩, h4'⟩, h5⟩, h6⟩, h7⟩, h8⟩, h9⟩, h10⟩ := h
    have := noKw_nil h1; subst this
    obtain ⟨rfl, g1, g2⟩ := ok.blt h2 (by decide)
    cases tg <;> try cases h0
    exact i_zip3 ok.K g1 g2 h3 h4 h4' (rM_F (ih.B (by simp only [sz, szs, szI] at hn ⊢; omega) ok h5) (fun hb => ih.E (by simp only [sz, szs, szI] at hn ⊢; omega) ok h5 hb) h6) (rM_F (ih.B (by simp only [sz, szs, szI] at hn ⊢; omega) ok h7) (fun hb => ih.E (by simp only [sz, szs, szI] at hn ⊢; omega) ok h7 hb) h8)
      (rM_F (ih.B (by simp only [sz, szs, szI] at hn ⊢; omega) ok h9) (fun hb => ih.E (by simp only [sz, szs, szI] at hn ⊢; omega) ok h9 hb) h10)
  | .enum a, X, S, k, sc, m, tg, iter, hn, ok, h => by
    unfold ckI at h
    split at h <;> try cases h
    simp only [Bool.and_eq_true] at h
    obtain ⟨⟨⟨⟨⟨h0, h1⟩, h2⟩, h3⟩, h4⟩, h5⟩ := h
    have := noKw_nil h1; subst this
    obtain ⟨rfl, g1, g2⟩ := ok.blt h2 (by decide)
    cases tg <;> try cases h0
    exact i_enum ok.K g1 g2 h3 (rM_F (ih.B (by simp only [sz, szs, szI] at hn ⊢; omega) ok h4) (fun hb => ih.E (by simp only [sz, szs, szI] at hn ⊢; omega) ok h4 hb) h5)
theorem all : ∀ n, All tx N n
  | 0 => ⟨fun h => absurd h (by omega), fun h => absurd h (by omega), fun h => absurd h (by omega), fun h => absurd h (by omega), fun h => absurd h (by omega), fun h => absurd h (by omega), fun h => absurd h (by omega)⟩
  | n + 1 => ⟨fun h => sE_ (all n) h, fun h => sFs_ (all n) h, fun h => sBs_ (all n) h, fun h => sT_ (all n) h, fun h => sW_ (all n) h, fun h => sC_ (all n) h, fun h => sI_ (all n) h⟩
theorem sE {e : E} {X : Cx} {S : Sg} {k : Nat} {sc : Scope} {pe : Expr} (ok : XOk tx N X S k sc) (h : ckE tx N sc e pe = true) (hb : noB e = true) : PE X pe (tF S e) := (all (sz e + 1)).E (Nat.lt_succ_self _) ok h hb
theorem sB {e : E} {X : Cx} {S : Sg} {k : Nat} {sc : Scope} {pe : Expr} (ok : XOk tx N X S k sc) (h : ckE tx N sc e pe = true) : PE X pe (tB S e) := (all (sz e + 1)).B (Nat.lt_succ_self _) ok h
theorem sN {e : E} {X : Cx} {S : Sg} {k : Nat} {sc : Scope} {pe : Expr} (ok : XOk tx N X S k sc) (h : ckE tx N sc e pe = true) (hf : freshE e = true) : PE X pe (tN S e) := sN_ (all (sz e)) (Nat.lt_succ_self _) ok h hf
theorem sFs {es : List E} {X : Cx} {S : Sg} {k : Nat} {sc : Scope} {ps : List Expr} (ok : XOk tx N X S k sc) (h : ckEs tx N sc es ps = true) (hb : noBs es = true) : PA X ps (tEs S (rFs S.K) es) := (all (szs es + 1)).Fs (Nat.lt_succ_self _) ok h hb
theorem sT {e : E} {X : Cx} {S : Sg} {k : Nat} {sc : Scope} {pe : Expr} (ok : XOk tx N X S k sc) (h : ckE tx N sc e pe = true) (hb : noB e = true) (hi : noIf pe = true) : PT X pe (tT S e) := (all (sz e + 1)).T (Nat.lt_succ_self _) ok h hb hi
theorem sC {es : List E} {X : Cx} {S : Sg} {k : Nat} {sc : Scope} {ps : List Expr} (ok : XOk tx N X S k sc) (h : ckC tx N sc es ps = true) : PTs X ps (tTs S es) := (all (szs es + 1)).C (Nat.lt_succ_self _) ok h
theorem sI {it : I} {X : Cx} {S : Sg} {k : Nat} {sc : Scope} {m : Bool} {tg iter : Expr} (ok : XOk tx N X S k sc) (h : ckI tx N sc m (isTup tg) it iter = true) : PI X tg iter (wI S m it) := (all (szI it + 1)).I (Nat.lt_succ_self _) ok h
end
end DDS

set_option Elab.async false
set_option linter.all false
set_option maxRecDepth 100000
set_option maxHeartbeats 2000000
namespace DDS
open PySem PySem.Spec PyProof.Rows L2 DD
/-! ### the words of the classes -/
/-- isinstance(e, c) -/
def ckIs1 (sc : Scope) (e c : Str) (x : Expr) : Bool := match x with
  | .Call (.Name f _) [.Name e' _, .Name c' _] ks _ => noKw ks && bltB sc f "isinstance" && decide (e' = e) && decide (c' = c) && visB sc e && nmB e && glB sc c && nmB c
  | _ => false
def ckIs (sc : Scope) (e : Str) : List Str → List Expr → Bool
  | [], es => es.isEmpty
  | c :: cs, es => match es with
    | x :: es => ckIs1 sc e c x && ckIs sc e cs es
    | [] => false
def ckStrs : List Str → List Expr → Bool
  | [], es => es.isEmpty
  | c :: cs, es => match es with
    | x :: es => (match x with | .Constant (.str y) _ _ => decide (y = c) | _ => false) && ckStrs cs es
    | [] => false
/-- what the context of such a def knows: e is the exception, of the class D; cl: whether D is below a class -/
structure KX (X : Cx) (sc : Scope) (e so wo : Str) (a : Addr) (oe : Obj) (D : Addr) (cl : Str → Option Bool) : Prop where
  mem : (a, oe) ∈ X.pn
  C : ExcC X.K D
  hz : Zc (.ref D) none oe
  hf : ∃ vs, oe.data = .fields vs
  N_ : X.N = [e, so, wo]
  nd : X.N.Nodup
  sc_ : X.env.scope = sc
  fn : ∀ x, X.fn x = true
  fI : X.mg "isinstance" = none
  fV : X.mg "ValueError" = none
  cls : ∀ c b, cl c = some b → ∃ C, X.mg c = some (.ref C) ∧ PySem.W.kitOne X.K (.ref D) (.ref C) = some b
  ve : PySem.W.kitOne X.K (.ref D) (.type "ValueError") = some true
def tIs (a : Addr) (b : Bool) : TE := fun σ H Q => σ[0]? = some (some (.ref a)) ∧ Q (.bl b) H
section
variable {X : Cx} {sc : Scope} {e so wo : Str} {a : Addr} {oe : Obj} {D : Addr} {cl : Str → Option Bool} {pos : Pos}
theorem KX.gl (o : KX X sc e so wo a oe D cl) {x : Str} (h : glB sc x = true) : Gl X x := by
  have z : sc.names.lookup x = some .globalImplicit := of_decide_eq_true h
  show X.env.scope.names.lookup x = some .globalImplicit
  rw [o.sc_]; exact z
theorem KX.vis (o : KX X sc e so wo a oe D cl) {x : Str} (h : visB sc x = true) : Vis X.env.scope x := by rw [o.sc_]; exact visB_ok h
theorem KX.loc (o : KX X sc e so wo a oe D cl) {x : Str} (h : locB sc x = true) : Loc X.env.scope x := by rw [o.sc_]; exact locB_ok h
theorem k_is (o : KX X sc e so wo a oe D cl) {c : Str} {b : Bool} {x : Expr} (h : ckIs1 sc e c x = true) (hc : cl c = some b) : PE X x (tIs a b) := by
  unfold ckIs1 at h
  split at h <;> try cases h
  simp only [Bool.and_eq_true, decide_eq_true_eq] at h
  obtain ⟨⟨⟨⟨⟨⟨⟨h1, h2⟩, rfl⟩, rfl⟩, h3⟩, h4⟩, h5⟩, h6⟩ := h
  have := noKw_nil h1; subst this
  unfold bltB at h2
  rw [Bool.and_eq_true] at h2
  have ef := of_decide_eq_true h2.1
  subst ef
  obtain ⟨C, m1, m2⟩ := o.cls _ _ hc
  refine (pe_callB (call_isX o.mem o.C o.hz o.hf) (o.gl h2.2) o.fI (by decide +kernel) (PA2 rfl rfl (pe_var (i := 0) (by rw [o.N_]; rfl) (o.vis h3) (nmB_ok h4).1 (nmB_ok h4).2) (pe_glob (v := .ref C) (o.gl h5) m1 rfl (nmB_ok h6).1)) (by decide) (by decide) (star_cons rfl) rfl).mono fun σ H Q ⟨h0, q⟩ => ?_
  exact ⟨_, h0, .ref C, .ref C, b, rfl, fun u r => r, m2, q⟩
theorem k_ve (o : KX X sc e so wo a oe D cl) {x : Expr} (h : ckIs1 sc e (Str.ofString "ValueError") x = true) : PE X x (tIs a true) := by
  unfold ckIs1 at h
  split at h <;> try cases h
  simp only [Bool.and_eq_true, decide_eq_true_eq] at h
  obtain ⟨⟨⟨⟨⟨⟨⟨h1, h2⟩, rfl⟩, rfl⟩, h3⟩, h4⟩, h5⟩, h6⟩ := h
  have := noKw_nil h1; subst this
  unfold bltB at h2
  rw [Bool.and_eq_true] at h2
  have ef := of_decide_eq_true h2.1
  subst ef
  refine (pe_callB (call_isX o.mem o.C o.hz o.hf) (o.gl h2.2) o.fI (by decide +kernel) (PA2 rfl rfl (pe_var (i := 0) (by rw [o.N_]; rfl) (o.vis h3) (nmB_ok h4).1 (nmB_ok h4).2) (pe_bltn (v := .ty "ValueError") (o.gl h5) o.fV (by decide +kernel) rfl (by decide) (by decide))) (by decide) (by decide) (star_cons rfl) rfl).mono fun σ H Q ⟨h0, q⟩ => ?_
  exact ⟨_, h0, .ty "ValueError", .type "ValueError", true, rfl, fun u r => r, o.ve, q⟩
theorem ckIs1_star {c : Str} {x : Expr} (h : ckIs1 sc e c x = true) : notStar x = true := by
  unfold ckIs1 at h
  split at h <;> first | rfl | cases h
theorem k_iss (o : KX X sc e so wo a oe D cl) : ∀ {cs : List Str} {es : List Expr} {bs : List Bool}, ckIs sc e cs es = true → cs.map cl = bs.map some → PA X es (fun σ H Q => σ[0]? = some (some (.ref a)) ∧ Q (bs.map V.bl) H)
  | [], es, bs, h, hb => by
    cases bs with
    | cons b bs => simp at hb
    | nil =>
      cases es with
      | nil => exact pa_nil.mono fun σ H Q q => q.2
      | cons x es => cases h
  | c :: cs, es, bs, h, hb => by
    cases es with
    | nil => cases h
    | cons x es =>
      cases bs with
      | nil => simp at hb
      | cons b bs =>
        simp only [List.map_cons, List.cons.injEq] at hb
        simp only [ckIs, Bool.and_eq_true] at h
        exact (pa_cons (k_is o h.1 hb.1) (k_iss o h.2 hb.2) (star_cons (ckIs1_star h.1))).mono fun σ H Q q => ⟨q.1, q.1, q.2⟩
theorem k_strs : ∀ {cs : List Str} {es : List Expr}, ckStrs cs es = true → PA X es (fun σ H Q => Q (cs.map V.str) H)
  | [], es, h => by
    cases es with
    | nil => exact pa_nil.mono fun σ H Q q => q
    | cons x es => cases h
  | c :: cs, es, h => by
    cases es with
    | nil => cases h
    | cons x es =>
      simp only [ckStrs, Bool.and_eq_true] at h
      obtain ⟨h1, h2⟩ := h
      split at h1
      · have := of_decide_eq_true h1
        subst this
        exact (pa_cons pe_str (k_strs h2) (star_cons rfl)).mono fun σ H Q q => q
      · cases h1
/-- the slots behind some statements: e, the truths, nothing lost -/
structure SK (a : Addr) (σ : Sl) (H H0 : Hp) (bs : List Bool) : Prop where
  e : σ[0]? = some (some (.ref a))
  l : σ.length = 3
  s : ∃ q, σ[1]? = some (some (.ref q)) ∧ H q = some (.lst (bs.map V.bl)) ∧ H0 q = none
  k : ∀ b o, H0 b = some o → H b = some o
theorem not0 {H0 H : Hp} {p : Addr} (k : ∀ b o, H0 b = some o → H b = some o) (hp : H p = none) : H0 p = none := by
  rcases some_or_none (H0 p) with ⟨o, e⟩ | e
  · rw [k p o e] at hp; cases hp
  · exact e
theorem upd_keep {H : Hp} {p b : Addr} {o u : HO} (hb : H b = some u) (hp : H p = none) : upd H p o b = some u := by
  rw [upd_ne (fun z => by rw [z] at hb; rw [hb] at hp; cases hp)]; exact hb
theorem ext_upd {H0 H : Hp} {p : Addr} {o : HO} (k : ∀ b o, H0 b = some o → H b = some o) (hp : H p = none) : ∀ b u, H0 b = some u → upd H p o b = some u := fun b u h => by
  rw [upd_ne (fun z => by rw [z] at h; rw [k _ _ h] at hp; cases hp)]; exact k b u h
/-- some = [isinstance(e, ..), ..] -/
theorem k_set (o : KX X sc e so wo a oe D cl) {es : List Expr} {cs : List Str} {bs : List Bool} {px pl : Pos} (hx : locB sc so = true) (h : ckIs sc e cs es = true) (hb : cs.map cl = bs.map some) (hn : bs.length ≤ 100) :
    PS X (.Assign [.Name so px] (.List es pl) pos) (fun D σ H => ∃ H0, σ[0]? = some (some (.ref a)) ∧ σ.length = 3 ∧ (∀ b o, H0 b = some o → H b = some o) ∧ ∀ σ' H', SK a σ' H' H0 bs → D.nx σ' H') := by
  refine (ps_set o.nd (i := 1) (by rw [o.N_]; rfl) (o.loc hx) (pe_lst (k_iss o h hb)) (sw_plain rfl) (.inl (o.fn so))).mono fun D σ H ⟨H0, h0, hl, k, q⟩ => ?_
  refine ⟨h0, by rw [List.length_map]; have := sizeLine_eq; omega, fun p hp => q _ _ ⟨?_, by simpa using hl, ⟨p, ?_, upd_same, not0 k hp⟩, ext_upd k hp⟩⟩
  · rw [List.getElem?_set_ne (by decide)]; exact h0
  · rw [List.getElem?_set_self (by omega)]
/-- some = some + [isinstance(e, ..), ..] -/
theorem k_add (o : KX X sc e so wo a oe D cl) {es : List Expr} {cs : List Str} {bs : List Bool} {px py pl pb : Pos} (hx : locB sc so = true) (hv : visB sc so = true) (hnm : nmB so = true) (h : ckIs sc e cs es = true) (hb : cs.map cl = bs.map some) :
    PS X (.Assign [.Name so px] (.BinOp (.Name so py) .Add (.List es pl) pb) pos) (fun D σ H => ∃ H0 ds, SK a σ H H0 ds ∧ ds.length + bs.length ≤ 100 ∧ ∀ σ' H', SK a σ' H' H0 (ds ++ bs) → D.nx σ' H') := by
  refine (ps_set o.nd (i := 1) (by rw [o.N_]; rfl) (o.loc hx) (pe_op op_cat (pe_var (i := 1) (by rw [o.N_]; rfl) (o.vis hv) (nmB_ok hnm).1 (nmB_ok hnm).2) (pe_lst (k_iss o h hb))) (sw_plain rfl) (.inl (o.fn so))).mono fun D σ H ⟨H0, ds, sk, hn, q⟩ => ?_
  obtain ⟨h0, hl, ⟨r, h1, h2, h3⟩, k⟩ := sk
  have sl := sizeLine_eq
  refine ⟨_, h1, h0, by rw [List.length_map]; omega, fun p hp => ⟨r, p, ds.map V.bl, bs.map V.bl, rfl, rfl, ?_, upd_same, by simp; omega, fun p2 hp2 => q _ _ ⟨?_, by simpa using hl, ⟨p2, ?_, ?_, not0 (ext_upd k hp) hp2⟩, ext_upd (ext_upd k hp) hp2⟩⟩⟩
  · rw [upd_ne (fun z => by rw [z] at h2; rw [h2] at hp; cases hp)]; exact h2
  · rw [List.getElem?_set_ne (by decide)]; exact h0
  · rw [List.getElem?_set_self (by omega)]
  · rw [upd_same, List.map_append]
/-- some.count(True) != 1 or not isinstance(e, ValueError) -/
def ckTest (sc : Scope) (e so : Str) (x : Expr) : Bool := match x with
  | .BoolOp op [.Compare (.Call (.Attribute (.Name s _) m ap) [.Constant (.bool true) _ _] ks cp) ops [.Constant (.int 1) _ _] _, .UnaryOp uo v _] _ =>
    decide (op = .Or) && decide (s = so) && decide (m = ("count" : Str)) && (ap.endLine == cp.line) && noKw ks && decide (ops = [.NotEq]) && decide (uo = .Not) && ckIs1 sc e (Str.ofString "ValueError") v && visB sc so && nmB so
  | _ => false
theorem k_cnt (o : KX X sc e so wo a oe D cl) {p p2 ap cp : Pos} {kk : Nat} (h4 : visB sc so = true) (h5 : nmB so = true) (h1 : (ap.endLine == cp.line) = true) : PE X (.Call (.Attribute (.Name so p) "count" ap) [.Constant (.bool true) kk p2] [] cp) (tBM X.K "list" (rCntB X.K) (tVar 1) (tCons (tC (.bl true)) tNil)) :=
  pe_bm PySem.F.plainAttrs_list PySem.F.slot_list_count PySem.F.type_list_count mt_cntB (pe_var (i := 1) (by rw [o.N_]; rfl) (o.vis h4) (nmB_ok h5).1 (nmB_ok h5).2) (PA1 rfl pe_bl) rfl (few1 rfl) h1 (star_cons rfl) rfl
theorem k_idx (o : KX X sc e so wo a oe D cl) {p p2 ap cp : Pos} {kk : Nat} (h4 : visB sc so = true) (h5 : nmB so = true) (h1 : (ap.endLine == cp.line) = true) : PE X (.Call (.Attribute (.Name so p) "index" ap) [.Constant (.bool true) kk p2] [] cp) (tBM X.K "list" (rIndex X.K) (tVar 1) (tCons (tC (.bl true)) tNil)) :=
  pe_bm PySem.F.plainAttrs_list PySem.F.slot_list_index PySem.F.type_list_index mt_index (pe_var (i := 1) (by rw [o.N_]; rfl) (o.vis h4) (nmB_ok h5).1 (nmB_ok h5).2) (PA1 rfl pe_bl) rfl (few1 rfl) h1 (star_cons rfl) rfl
theorem ckIs1_plain {c : Str} {x : Expr} (h : ckIs1 sc e c x = true) : plainT x = true := by
  unfold ckIs1 at h
  split at h <;> first | rfl | cases h
theorem k_test (o : KX X sc e so wo a oe D cl) {x : Expr} (h : ckTest sc e so x = true) : PT X x (fun σ H Q => ∃ H0 bs, SK a σ H H0 bs ∧ bs.count true = 1 ∧ Q false H) := by
  unfold ckTest at h
  split at h <;> try cases h
  simp only [Bool.and_eq_true, decide_eq_true_eq] at h
  obtain ⟨⟨⟨⟨⟨⟨⟨⟨⟨rfl, rfl⟩, rfl⟩, h1⟩, h2⟩, rfl⟩, rfl⟩, h3⟩, h4⟩, h5⟩ := h
  have := noKw_nil h2; subst this
  refine ((pw_or (pt_cmpR op_ne (k_cnt o h4 h5 h1) pe_int rfl) (pw_or1 (pt_not (pt_val (k_ve o h3) (isTrue_of (ckIs1_plain h3)))))).pt).mono fun σ H Q ⟨H0, bs, sk, hb, q⟩ => ?_
  obtain ⟨h0, hl, ⟨r, s1, s2, s3⟩, k⟩ := sk
  refine ⟨_, s1, .inl ⟨rfl, _, .inl (.inl s2)⟩, r, bs, rfl, rfl, .inl (.inl s2), rfl, false, ?_, ?_⟩
  · rw [hb]; rfl
  · show (if (false : Bool) = true then Q true H else tNot (L2.tB (tIs a true)) σ H Q)
    rw [if_neg Bool.false_ne_true]
    exact ⟨h0, true, rfl, q⟩
/-- words = [..] -/
theorem k_words (o : KX X sc e so wo a oe D cl) {es : List Expr} {ws : List Str} {px pl : Pos} (hx : locB sc wo = true) (h : ckStrs ws es = true) (hn : ws.length ≤ 100) :
    PS X (.Assign [.Name wo px] (.List es pl) pos) (fun D σ H => ∃ H0 bs, SK a σ H H0 bs ∧ ∀ σ' H' q, SK a σ' H' H0 bs → σ'[2]? = some (some (.ref q)) → H' q = some (.lst (ws.map V.str)) → D.nx σ' H') := by
  refine (ps_set o.nd (i := 2) (by rw [o.N_]; rfl) (o.loc hx) (pe_lst (k_strs h)) (sw_plain rfl) (.inl (o.fn wo))).mono fun D σ H ⟨H0, bs, sk, q⟩ => ?_
  obtain ⟨h0, hl, ⟨r, s1, s2, s3⟩, k⟩ := sk
  refine ⟨by rw [List.length_map]; have := sizeLine_eq; omega, fun p hp => q _ _ p ⟨?_, by simpa using hl, ⟨r, ?_, ?_, s3⟩, ext_upd k hp⟩ ?_ upd_same⟩
  · rw [List.getElem?_set_ne (by decide)]; exact h0
  · rw [List.getElem?_set_ne (by decide)]; exact s1
  · rw [upd_ne (fun z => by rw [z] at s2; rw [s2] at hp; cases hp)]; exact s2
  · rw [List.getElem?_set_self (by omega)]
/-- words = words + [..] -/
theorem k_wordsAdd (o : KX X sc e so wo a oe D cl) {es : List Expr} {ws us : List Str} {px py pl pb : Pos} (hx : locB sc wo = true) (hv : visB sc wo = true) (hnm : nmB wo = true) (h : ckStrs us es = true) (hn : ws.length + us.length ≤ 100) :
    PS X (.Assign [.Name wo px] (.BinOp (.Name wo py) .Add (.List es pl) pb) pos) (fun D σ H => ∃ H0 bs q, SK a σ H H0 bs ∧ σ[2]? = some (some (.ref q)) ∧ H q = some (.lst (ws.map V.str)) ∧ ∀ σ' H' q, SK a σ' H' H0 bs → σ'[2]? = some (some (.ref q)) → H' q = some (.lst ((ws ++ us).map V.str)) → D.nx σ' H') := by
  refine (ps_set o.nd (i := 2) (by rw [o.N_]; rfl) (o.loc hx) (pe_op op_cat (pe_var (i := 2) (by rw [o.N_]; rfl) (o.vis hv) (nmB_ok hnm).1 (nmB_ok hnm).2) (pe_lst (k_strs h))) (sw_plain rfl) (.inl (o.fn wo))).mono fun D σ H ⟨H0, bs, t, sk, w1, w2, q⟩ => ?_
  obtain ⟨h0, hl, ⟨r, s1, s2, s3⟩, k⟩ := sk
  have sl := sizeLine_eq
  refine ⟨_, w1, by rw [List.length_map]; omega, fun p hp => ⟨t, p, ws.map V.str, us.map V.str, rfl, rfl, ?_, upd_same, by simp; omega, fun p2 hp2 => q _ _ p2 ⟨?_, by simpa using hl, ⟨r, ?_, ?_, s3⟩, ext_upd (ext_upd k hp) hp2⟩ ?_ ?_⟩⟩
  · rw [upd_ne (fun z => by rw [z] at w2; rw [w2] at hp; cases hp)]; exact w2
  · rw [List.getElem?_set_ne (by decide)]; exact h0
  · rw [List.getElem?_set_ne (by decide)]; exact s1
  · have e1 : upd H p (.lst (us.map V.str)) r = some (.lst (bs.map V.bl)) := by rw [upd_ne (fun z => by rw [z] at s2; rw [s2] at hp; cases hp)]; exact s2
    rw [upd_ne (fun z => by rw [z] at e1; rw [e1] at hp2; cases hp2)]; exact e1
  · rw [List.getElem?_set_self (by omega)]
  · rw [upd_same, List.map_append]
/-- return words[some.index(True)] -/
def ckRet (sc : Scope) (so wo : Str) (x : Stmt) : Bool := match x with
  | .Return (some (.Subscript (.Name w _) (.Call (.Attribute (.Name s _) m ap) [.Constant (.bool true) _ _] ks cp) _)) _ => decide (w = wo) && decide (s = so) && decide (m = ("index" : Str)) && (ap.endLine == cp.line) && noKw ks && visB sc so && nmB so && visB sc wo && nmB wo
  | _ => false
theorem k_ret (o : KX X sc e so wo a oe D cl) {x : Stmt} {ws : List Str} {word : Str} {j : Nat} (h : ckRet sc so wo x = true) (hw : ws[j]? = some word) :
    PS X x (fun D σ H => ∃ H0 bs q, SK a σ H H0 bs ∧ σ[2]? = some (some (.ref q)) ∧ H q = some (.lst (ws.map V.str)) ∧ bs[j]? = some true ∧ (∀ m, m < j → bs[m]? ≠ some true) ∧ D.rt (.str word) H) := by
  unfold ckRet at h
  split at h <;> try cases h
  simp only [Bool.and_eq_true, decide_eq_true_eq] at h
  obtain ⟨⟨⟨⟨⟨⟨⟨⟨rfl, rfl⟩, rfl⟩, h1⟩, h2⟩, h3⟩, h4⟩, h5⟩, h6⟩ := h
  have := noKw_nil h2; subst this
  refine (ps_ret (pe_ix ix_list (pe_var (i := 2) (by rw [o.N_]; rfl) (o.vis h5) (nmB_ok h6).1 (nmB_ok h6).2) (k_idx o h3 h4 h1) (fun _ _ => rfl))).mono fun D σ H ⟨H0, bs, t, sk, w1, w2, b1, b2, q⟩ => ?_
  obtain ⟨h0, hl, ⟨r, s1, s2, s3⟩, k⟩ := sk
  refine ⟨_, w1, _, s1, .inl ⟨rfl, _, .inl (.inl s2)⟩, r, bs.map V.bl, .bl true, j, .bl true, rfl, rfl, .inl (.inl s2), rfl, flat_bls bs, ?_, rfl, ?_, t, ws.map V.str, (j : Int), .str word, rfl, rfl, .inl (.inl w2), ?_, q⟩
  · rw [List.getElem?_map, b1]; rfl
  · intro m z hm hz
    rw [List.getElem?_map] at hz
    obtain ⟨c, hc, rfl⟩ := Option.map_eq_some_iff.mp hz
    have := b2 m hm
    cases c with
    | true => exact absurd hc this
    | false => rfl
  · have hj : j < ws.length := (List.getElem?_eq_some_iff.mp hw).1
    refine atI_of (p := j) ?_ (by rw [List.getElem?_map, hw]; rfl)
    rw [← place_ix]
    unfold place
    rw [if_pos (by omega), List.length_map, if_pos (by omega)]; simp
/-- some.append(isinstance(e, c)) -/
theorem k_app (o : KX X sc e so wo a oe D cl) {x : Expr} {c : Str} {b : Bool} {px ap cp : Pos} (hv : visB sc so = true) (hnm : nmB so = true) (h : ckIs1 sc e c x = true) (hb : cl c = some b) (hl : (ap.endLine == cp.line) = true) :
    PS X (.Expr (.Call (.Attribute (.Name so px) "append" ap) [x] [] cp) pos) (fun D σ H => ∃ H0 ds, SK a σ H H0 ds ∧ ds.length ≤ 100 ∧ ∀ σ' H', SK a σ' H' H0 (ds ++ [b]) → D.nx σ' H') := by
  refine (ps_expr (pe_bm PySem.F.plainAttrs_list PySem.F.slot_list_append PySem.F.type_list_append mt_append (pe_var (i := 1) (by rw [o.N_]; rfl) (o.vis hv) (nmB_ok hnm).1 (nmB_ok hnm).2) (PA1 (ckIs1_star h) (k_is o h hb)) rfl (few1 (ckIs1_star h)) hl (star_cons (ckIs1_star h)) rfl) rfl).mono fun D σ H ⟨H0, ds, sk, hn, q⟩ => ?_
  obtain ⟨h0, hl, ⟨r, s1, s2, s3⟩, k⟩ := sk
  have sl := sizeLine_eq
  refine ⟨_, s1, .inl ⟨rfl, _, .inl (.inl s2)⟩, h0, r, ds.map V.bl, .bl b, rfl, rfl, s2, by rw [List.length_map]; omega, q _ _ ⟨h0, hl, ⟨r, s1, by rw [upd_same, List.map_append]; rfl, s3⟩, fun b u e => ?_⟩⟩
  rw [upd_ne (fun z => by subst z; rw [s3] at e; cases e)]; exact k b u e
/-- return (words + ['no'] * n)[some.index(True)] -/
def ckRet2 (sc : Scope) (so wo : Str) (us : List Str) (x : Stmt) : Bool := match x with
  | .Return (some (.Subscript (.BinOp (.Name w _) o1 (.BinOp (.List [.Constant (.str no) _ _] _) o2 (.Constant (.int n) _ _) _) _) (.Call (.Attribute (.Name s _) m ap) [.Constant (.bool true) _ _] ks cp) _)) _ => decide (w = wo) && decide (o1 = .Add) && decide (o2 = .Mult) && decide (0 ≤ n) && decide (n ≤ 50) && decide (us = List.replicate n.toNat no) && decide (s = so) && decide (m = ("index" : Str)) && (ap.endLine == cp.line) && noKw ks && visB sc so && nmB so && visB sc wo && nmB wo
  | _ => false
theorem k_ret2 (o : KX X sc e so wo a oe D cl) {x : Stmt} {ws us : List Str} {word : Str} {j : Nat} (h : ckRet2 sc so wo us x = true) (hw : (ws ++ us)[j]? = some word) (hn : ws.length + us.length ≤ 100) :
    PS X x (fun D σ H => ∃ H0 bs q, SK a σ H H0 bs ∧ σ[2]? = some (some (.ref q)) ∧ H q = some (.lst (ws.map V.str)) ∧ bs[j]? = some true ∧ (∀ m, m < j → bs[m]? ≠ some true) ∧ ∀ H', (∀ b u, H0 b = some u → H' b = some u) → D.rt (.str word) H') := by
  unfold ckRet2 at h
  split at h <;> try cases h
  rename_i no _ _ _ _ n _ _ _ _ _ _ _ _ _ _ _ _ _ _
  simp only [Bool.and_eq_true, decide_eq_true_eq] at h
  obtain ⟨⟨⟨⟨⟨⟨⟨⟨⟨⟨⟨⟨⟨rfl, rfl⟩, rfl⟩, n0⟩, n1⟩, rfl⟩, rfl⟩, rfl⟩, h1⟩, h2⟩, h3⟩, h4⟩, h5⟩, h6⟩ := h
  have := noKw_nil h2; subst this
  refine (ps_ret (pe_ix ix_list (pe_op op_cat (pe_var (i := 2) (by rw [o.N_]; rfl) (o.vis h5) (nmB_ok h6).1 (nmB_ok h6).2) (pe_op op_rep (pe_lst (k_strs (cs := [no]) (by simp [ckStrs]))) pe_int)) (k_idx o h3 h4 h1) (fun _ _ => rfl))).mono fun D σ H ⟨H0, bs, t, sk, w1, w2, b1, b2, q⟩ => ?_
  obtain ⟨h0, hl, ⟨r, s1, s2, s3⟩, k⟩ := sk
  have sl := sizeLine_eq
  have hnl : n.toNat ≤ 50 := by omega
  have ef : (List.replicate n.toNat [V.str no]).flatten = (List.replicate n.toNat no).map V.str := by
    generalize n.toNat = m
    induction m with
    | zero => rfl
    | succ m ih => rw [List.replicate_succ, List.flatten_cons, ih, List.replicate_succ]; rfl
  rw [List.length_replicate] at hn
  have hj : j < (ws ++ List.replicate n.toNat no).length := (List.getElem?_eq_some_iff.mp hw).1
  refine ⟨_, w1, by show 1 ≤ sizeLine; omega, fun p hp => ⟨p, n, [.str no], rfl, rfl, upd_same, by omega, by omega, by show 1 * n.toNat ≤ sizeLine; omega, fun p2 hp2 => ?_⟩⟩
  have w3 := upd_keep (o := .lst (List.replicate n.toNat [V.str no]).flatten) (upd_keep (o := .lst [.str no]) w2 hp) hp2
  have r3 := upd_keep (o := .lst (List.replicate n.toNat [V.str no]).flatten) (upd_keep (o := .lst [.str no]) s2 hp) hp2
  refine ⟨t, p2, ws.map V.str, _, rfl, rfl, w3, upd_same, by rw [ef]; simp; omega, fun p3 hp3 => ?_⟩
  have r4 := upd_keep (o := .lst (ws.map V.str ++ (List.replicate n.toNat [V.str no]).flatten)) r3 hp3
  refine ⟨_, s1, .inl ⟨rfl, _, .inl (.inl r4)⟩, r, bs.map V.bl, .bl true, j, .bl true, rfl, rfl, .inl (.inl r4), rfl, flat_bls bs, ?_, rfl, ?_, p3, (ws ++ List.replicate n.toNat no).map V.str, (j : Int), .str word, rfl, rfl, .inl (.inl ?_), ?_, q _ (ext_upd (ext_upd (ext_upd k hp) hp2) hp3)⟩
  · rw [List.getElem?_map, b1]; rfl
  · intro m z hm hz
    rw [List.getElem?_map] at hz
    obtain ⟨c, hc, rfl⟩ := Option.map_eq_some_iff.mp hz
    have := b2 m hm
    cases c with
    | true => exact absurd hc this
    | false => rfl
  · rw [upd_same, ef, List.map_append]
  · refine atI_of (p := j) ?_ (by rw [List.getElem?_map, hw]; rfl)
    rw [← place_ix]
    unfold place
    rw [if_pos (by omega), List.length_map, if_pos (by omega)]; simp
/-- the body of such a def: c1..c5 the classes asked, w1 w2 the words -/
def ckKind (sc : Scope) (e so wo : Str) (c1 c2 c3 c4 c5 w1 w2 : List Str) (body : List Stmt) : Bool := match body with
  | [.Assign [.Name x1 _] (.List l1 _) _, .Assign [.Name x2 _] (.BinOp (.Name y2 _) o2 (.List l2 _) _) _, .Assign [.Name x3 _] (.BinOp (.Name y3 _) o3 (.List l3 _) _) _, .Assign [.Name x4 _] (.BinOp (.Name y4 _) o4 (.List l4 _) _) _,
      .Assign [.Name x5 _] (.BinOp (.Name y5 _) o5 (.List l5 _) _) _, .If t [.Return (some (.Constant (.str _) _ _)) _] [] _, .Assign [.Name x6 _] (.List l6 _) _, .Assign [.Name x7 _] (.BinOp (.Name y7 _) o7 (.List l7 _) _) _, r] =>
    locB sc so && visB sc so && nmB so && locB sc wo && visB sc wo && nmB wo && decide (x1 = so) && ckIs sc e c1 l1 && decide (x2 = so) && decide (y2 = so) && decide (o2 = .Add) && ckIs sc e c2 l2 && decide (x3 = so) && decide (y3 = so) && decide (o3 = .Add) && ckIs sc e c3 l3 &&
    decide (x4 = so) && decide (y4 = so) && decide (o4 = .Add) && ckIs sc e c4 l4 && decide (x5 = so) && decide (y5 = so) && decide (o5 = .Add) && ckIs sc e c5 l5 && ckTest sc e so t &&
    decide (x6 = wo) && ckStrs w1 l6 && decide (x7 = wo) && decide (y7 = wo) && decide (o7 = .Add) && ckStrs w2 l7 && ckRet sc so wo r
  | [.Assign [.Name x1 _] (.List l1 _) _, .Assign [.Name x2 _] (.BinOp (.Name y2 _) o2 (.List l2 _) _) _, .Assign [.Name x3 _] (.BinOp (.Name y3 _) o3 (.List l3 _) _) _, .Assign [.Name x4 _] (.BinOp (.Name y4 _) o4 (.List l4 _) _) _,
      .Expr (.Call (.Attribute (.Name x5 _) m5 ap) [l5] ks cp) _, .If t [.Return (some (.Constant (.str _) _ _)) _] [] _, .Assign [.Name x6 _] (.List l6 _) _, r] =>
    locB sc so && visB sc so && nmB so && locB sc wo && visB sc wo && nmB wo && decide (x1 = so) && ckIs sc e c1 l1 && decide (x2 = so) && decide (y2 = so) && decide (o2 = .Add) && ckIs sc e c2 l2 && decide (x3 = so) && decide (y3 = so) && decide (o3 = .Add) && ckIs sc e c3 l3 &&
    decide (x4 = so) && decide (y4 = so) && decide (o4 = .Add) && ckIs sc e c4 l4 && decide (x5 = so) && decide (m5 = ("append" : Str)) && (ap.endLine == cp.line) && noKw ks && (match c5 with | [c] => ckIs1 sc e c l5 | _ => false) && ckTest sc e so t &&
    decide (x6 = wo) && ckStrs w1 l6 && ckRet2 sc so wo w2 r
  | _ => false
theorem k_body (o : KX X sc e so wo a oe D cl) {c1 c2 c3 c4 c5 w1 w2 : List Str} {b1 b2 b3 b4 b5 : List Bool} {body : List Stmt} {word : Str} {j : Nat} (h : ckKind sc e so wo c1 c2 c3 c4 c5 w1 w2 body = true)
    (h1 : c1.map cl = b1.map some) (h2 : c2.map cl = b2.map some) (h3 : c3.map cl = b3.map some) (h4 : c4.map cl = b4.map some) (h5 : c5.map cl = b5.map some) (hn : b1.length + b2.length + b3.length + b4.length + b5.length ≤ 100) (hm : w1.length + w2.length ≤ 100)
    (hc : ((((b1 ++ b2) ++ b3) ++ b4) ++ b5).count true = 1) (hj : ((((b1 ++ b2) ++ b3) ++ b4) ++ b5)[j]? = some true) (hj2 : ∀ m, m < j → ((((b1 ++ b2) ++ b3) ++ b4) ++ b5)[m]? ≠ some true) (hw : (w1 ++ w2)[j]? = some word) :
    ∃ t, PSs X body t ∧ ∀ (Dd : Ends) (σ : Sl) (H : Hp), σ[0]? = some (some (.ref a)) → σ.length = 3 → (∀ H', (∀ b u, H b = some u → H' b = some u) → Dd.rt (.str word) H') → t Dd σ H := by
  unfold ckKind at h
  split at h <;> try cases h
  · simp only [Bool.and_eq_true, decide_eq_true_eq] at h
    obtain ⟨⟨⟨⟨⟨⟨⟨⟨⟨⟨⟨⟨⟨⟨⟨⟨⟨⟨⟨⟨⟨⟨⟨⟨⟨⟨⟨⟨⟨⟨⟨q1, q2⟩, q3⟩, q4⟩, q5⟩, q6⟩, rfl⟩, q7⟩, rfl⟩, rfl⟩, rfl⟩, q8⟩, rfl⟩, rfl⟩, rfl⟩, q9⟩, rfl⟩, rfl⟩, rfl⟩, q10⟩, rfl⟩, rfl⟩, rfl⟩, q11⟩, q12⟩, rfl⟩, q13⟩, rfl⟩, rfl⟩, rfl⟩, q14⟩, q15⟩ := h
    refine ⟨_, pss_cons (k_set o q1 q7 h1 (by omega)) (pss_cons (k_add o q1 q2 q3 q8 h2) (pss_cons (k_add o q1 q2 q3 q9 h3) (pss_cons (k_add o q1 q2 q3 q10 h4) (pss_cons (k_add o q1 q2 q3 q11 h5)
      (pss_cons (ps_if (k_test o q12) (pss_cons (ps_ret pe_str) pss_nil) pss_nil) (pss_cons (k_words o q4 q13 (by omega)) (pss_cons (k_wordsAdd (ws := w1) o q4 q5 q6 q14 hm) (pss_cons (k_ret o q15 hw) pss_nil)))))))), fun Dd σ H h0 hl q => ?_⟩
    refine ⟨H, h0, hl, fun _ _ z => z, fun σ1 H1 s1 => ⟨H, b1, s1, by omega, fun σ2 H2 s2 => ⟨H, _, s2, by simp; omega, fun σ3 H3 s3 => ⟨H, _, s3, by simp; omega, fun σ4 H4 s4 => ⟨H, _, s4, by simp; omega, fun σ5 H5 s5 => ⟨H, _, s5, hc, ?_⟩⟩⟩⟩⟩⟩
    simp only [Bool.false_eq_true, if_false]
    exact ⟨H, _, s5, fun σ6 H6 p6 s6 w6 v6 => ⟨H, _, p6, s6, w6, v6, fun σ7 H7 p7 s7 w7 v7 => ⟨H, _, p7, s7, w7, v7, hj, hj2, q H7 s7.k⟩⟩⟩
  · simp only [Bool.and_eq_true, decide_eq_true_eq] at h
    obtain ⟨⟨⟨⟨⟨⟨⟨⟨⟨⟨⟨⟨⟨⟨⟨⟨⟨⟨⟨⟨⟨⟨⟨⟨⟨⟨⟨⟨q1, q2⟩, q3⟩, q4⟩, q5⟩, q6⟩, rfl⟩, q7⟩, rfl⟩, rfl⟩, rfl⟩, q8⟩, rfl⟩, rfl⟩, rfl⟩, q9⟩, rfl⟩, rfl⟩, rfl⟩, q10⟩, rfl⟩, rfl⟩, q11⟩, q11'⟩, q12'⟩, q12⟩, rfl⟩, q13⟩, q15⟩ := h
    have := noKw_nil q11'; subst this
    split at q12' <;> try cases q12'
    obtain ⟨b5', rfl⟩ : ∃ b, b5 = [b] := by
      cases b5 with
      | nil => simp at h5
      | cons b bs => cases bs with
        | nil => exact ⟨b, rfl⟩
        | cons c cs => simp at h5
    simp only [List.map_cons, List.map_nil, List.cons.injEq, and_true] at h5
    refine ⟨_, pss_cons (k_set o q1 q7 h1 (by omega)) (pss_cons (k_add o q1 q2 q3 q8 h2) (pss_cons (k_add o q1 q2 q3 q9 h3) (pss_cons (k_add o q1 q2 q3 q10 h4) (pss_cons (k_app o q2 q3 q12' h5 q11)
      (pss_cons (ps_if (k_test o q12) (pss_cons (ps_ret pe_str) pss_nil) pss_nil) (pss_cons (k_words o q4 q13 (by omega)) (pss_cons (k_ret2 (ws := w1) o q15 hw hm) pss_nil))))))), fun Dd σ H h0 hl q => ?_⟩
    refine ⟨H, h0, hl, fun _ _ z => z, fun σ1 H1 s1 => ⟨H, b1, s1, by omega, fun σ2 H2 s2 => ⟨H, _, s2, by simp; omega, fun σ3 H3 s3 => ⟨H, _, s3, by simp; omega, fun σ4 H4 s4 => ⟨H, _, s4, by simp; omega, fun σ5 H5 s5 => ⟨H, _, s5, hc, ?_⟩⟩⟩⟩⟩⟩
    simp only [Bool.false_eq_true, if_false]
    exact ⟨H, _, s5, fun σ6 H6 p6 s6 w6 v6 => ⟨H, _, p6, s6, w6, v6, hj, hj2, q⟩⟩
end
end DDS
namespace DDS
open PySem PySem.Spec PyProof.Rows L2 DD
/-! ### try -/
section
variable {g : Gh} {H H' H'' : Hp} {K : PySem.W.Frag} {st : Store}
theorem Step.ext {gs : Gh} {Hs : Hp} (s : Step gs Hs g H') (x : ∀ b u, H' b = some u → H'' b = some u) : Step gs Hs g H'' where
  F := s.F
  ks := s.ks
  kp := fun a o e n => x a o (s.kp a o e n)
  lv := fun a o e => by
    obtain ⟨o', e'⟩ := s.lv a o e
    exact ⟨o', x a o' e'⟩
  nF := s.nF
  nk := s.nk
theorem Stp.ext (x : ∀ b u, H' b = some u → H'' b = some u) : Stp g H' g H'' := ⟨fun _ h => h, List.prefix_rfl, fun a o _ h => x a o h, fun a o h _ => x a o h, fun a o h => ⟨o, x a o h⟩⟩
theorem Wf.ext (w : Wf K g H' st) (x : ∀ b u, H' b = some u → H'' b = some u) : Wf K g H'' st where
  len := w.len
  nd := w.nd
  cell := fun k c a e1 e2 => (w.cell k c a e1 e2).stp (Stp.ext x) fun o e => x a o e
  nF := w.nF
  lv := fun a ha => by
    obtain ⟨o, e⟩ := w.lv a ha
    exact ⟨o, x a o e⟩
end
/-- a name whose value is known -/
theorem pe_varL {X : Cx} {i : Nat} {n : Str} {p : Pos} {v : V} (hi : X.N[i]? = some n) (hv : Vis X.env.scope n) (hd : (n == ("__debug__" : Str)) = false) (hcd : (n == ("__classdict__" : Str)) = false) : PE X (.Name n p) (fun σ H Q => (i < σ.length → σ[i]? = some (some v)) ∧ Q v H) := by
  refine ⟨fun pins s σ H Q I h => (pe_var hi hv hd hcd).run pins s σ H Q I ⟨v, h.1 ?_, h.2⟩⟩
  rw [I.len]
  exact (List.getElem?_eq_some_iff.mp hi).1
theorem s_tri {X : Cx} {S : Sg} {k i : Nat} {B : List Stmt} {b : List DD.S} {ks : List Str} {x n kf : Str} {np pos' pos rp cp p1 p2 : Pos} (hs : X.stack = X.env :: X.outer) (hf : X.env.frame = some X.env.locals) (hN : X.N.Nodup) (hi : X.N[i]? = some n) (hln : X.env.kindOf n = some .local) (hv : Vis X.env.scope n)
    (hd : (n == ("__debug__" : Str)) = false) (hcd : (n == ("__classdict__" : Str)) = false) (hcx : Names X x (.ref (S.ca 0))) (tk : L2N.Takes X S.W) (room : Room k X.A) (hkin : ∀ c word, wordOf ks c = some word → KinAt X S kf c word) (hgk : Gl X kf) (hdb : (kf == ("__debug__" : Str)) = false)
    (hb : ∀ (W : WX) (pn : List (Addr × Obj)) (xe : Value → Shared → Prop), L2N.Takes (X.tr pn xe) W → PassesOwn (model X.prog X.w) X.A X.env xe → PSs (X.tr pn xe) B (tSs { S with W := W } b)) :
    PS X (.Try B [.ExceptHandler (some (.Name x np)) (some n) [.Return (some (.Call (.Name kf p1) [.Name n p2] [] cp)) rp] pos'] [] [] pos) (tS S (.tri b i ks)) := by
  refine (L2N.ps_try_as (ts := fun a cls d D σ H => ∃ c word, cls = .ref (S.ca c) ∧ d = none ∧ wordOf ks c = some word ∧ (i < σ.length → σ[i]? = some (some (.ref a))) ∧ ∀ H', (∀ b u, H b = some u → H' b = some u) → D.rt (.str word) H')
    (tb := fun W => tSs { S with W := W } b) hs hf hN hi hln hcx tk hb ?hsu).mono fun D σ H ⟨g, st, env, at_, h⟩ => ?_
  case hsu =>
    intro a oe cls d pn hz hfl
    refine (pss_cons (t := fun D σ H => ∃ c word, cls = .ref (S.ca c) ∧ d = none ∧ wordOf ks c = some word ∧ (i < σ.length → σ[i]? = some (some (.ref a))) ∧ ∀ H', (∀ b u, H b = some u → H' b = some u) → D.rt (.str word) H') ⟨fun pins s σ H D I ⟨c, word, e1, e2, e3, e4, q⟩ => ?_⟩ pss_nil).mono fun D σ H h => h
    subst e1 e2
    obtain ⟨⟨fa, fd, pn', F, m1, m2, m3⟩, _⟩ := hkin c word e3
    have hr := L2H.roomH_of room
    have hr0 : L2H.RoomH 0 (X.suite a ((a, oe) :: pn)).A := ⟨by have := hr.dp; show X.A.depth + 3 * 0 + 5 < _; omega, by have := hr.un; show X.A.units + 16 * 0 + 200 < _; omega⟩
    obtain ⟨vs, hvs⟩ := hfl
    have hot : L2H.Hot1 (X.suite a ((a, oe) :: pn)).A (a, oe) := ⟨rfl, vs, hvs, hz.2.2 vs hvs⟩
    have hret := ps_ret (X := X.suite a ((a, oe) :: pn)) (pos := rp) (pe_callE (X := X.suite a ((a, oe) :: pn)) (p := (a, oe)) (q := p1) (pos := cp) F hr0 hot (by simp) hz.zc hgk m1 m2 m3 (fun σ pins H s e s' I c => by obtain ⟨_, _, _, _, _, _, _, _, _, _, _, _, z⟩ := c; exact z.elim) (pe_varL (v := .ref a) (p := p2) hi hv hd hcd) rfl hdb)
    exact hret.run pins s σ H D I ⟨e4, rfl, fun H' x => q H' x⟩
  refine ⟨g, st, env, at_, ?_⟩
  simp only [evS] at h
  show PostS { S with W := _ } g H (evSs S.cl b env st) D
  cases e : evSs S.cl b env st with
  | ok fl st' =>
    rw [e] at h
    cases fl with
    | next env' => exact h
    | ret w => exact h
  | bad => rw [e] at h; exact h
  | exc c st' =>
    rw [e] at h
    cases ek : wordOf ks c with
    | none => simp only [ek] at h; exact h.elim
    | some word =>
      simp only [ek] at h
      intro g' H' σ' s' w'
      exact ⟨true, (hkin c word ek).cl, fun _ a ha => ⟨c, word, rfl, rfl, ek, fun hl => by rw [List.getElem?_set_self (by simpa using hl)], fun H'' x => h g' H'' _ (Step.ext s' x) (Wf.ext w' x) ⟨[], ⟨rfl, rfl⟩, List.nodup_nil, by simp⟩⟩, fun z => by cases z⟩
end DDS

set_option Elab.async false
set_option linter.all false
set_option maxRecDepth 100000
set_option maxHeartbeats 8000000
namespace DDS
open PySem PySem.Spec PyProof.Rows L2 DD
/-! ### statements are terms -/
/-- the names of a store of several, those that may be exchanged -/
def swNames (sc : Scope) (ts : List Expr) : List Str := ts.filterMap fun
    | .Name id pos => if sc.names.lookup id == some .local && pos.line == (ts.head?.map (·.pos.line)).getD 0 then some id else none
    | _ => none
/-- stores of several names that are not exchanged -/
def swNone (sc : Scope) (tg pe : Expr) : Bool := match tg, pe with
  | .Tuple ts _ _, .Tuple vs _ _ => !(ts.length == 2 || ts.length == 3) || vs.length != ts.length || (swNames sc ts).length != ts.length || vs.all (foldedForSure 8)
  | _, .Tuple _ _ _ => true
  | _, _ => true
theorem swNone_ok {sc : Scope} {tg pe : Expr} {env : Env} (he : env.scope = sc) (h : swNone sc tg pe = true) (ht : isTup tg = true) : swappedStores [tg] pe env = pure none := by
  subst he
  cases tg <;> try cases ht
  cases pe <;> first | rfl | skip
  rename_i ts k1 p1 vs k2 p2
  have h' : (!(ts.length == 2 || ts.length == 3) || vs.length != ts.length || (swNames env.scope ts).length != ts.length || vs.all (foldedForSure 8)) = true := h
  unfold swappedStores
  simp only [Bool.or_eq_true] at h'
  rcases h' with (h' | h') | h'
  · have e : (!(ts.length == 2 || ts.length == 3) || vs.length != ts.length || env.blockKind != .function) = true := by simp only [Bool.or_eq_true]; exact .inl h'
    simp only [e, if_true]
  · simp only
    split
    · rfl
    · split
      · rfl
      · have e : ((swNames env.scope ts).length != ts.length || (swNames env.scope ts).eraseDups.length != (swNames env.scope ts).length) = true := by simp only [Bool.or_eq_true]; exact .inl h'
        exact if_pos e
  · simp only
    split
    · rfl
    · split
      · rfl
      · split
        · rfl
        · first | rfl | exact if_pos h' | (split <;> first | rfl | contradiction)
def parB (N : List Str) (sc : Scope) (i j : Nat) (x y : Str) (px py : Pos) (pa pb : Expr) : Bool :=
  decide (N[i]? = some x) && decide (N[j]? = some y) && decide (i ≠ j) && decide (sc.names.lookup x = some .local) && decide (sc.names.lookup y = some .local) && decide (py.line = px.line) && decide (sc.kind = .function) && notStar pa && notStar pb &&
    !([pa, pb].all (foldedForSure 8)) && !([pa, pb].all (constantsAlone 8)) && decide (x ≠ y)
def par3B (N : List Str) (sc : Scope) (t : T) (e : E) (tg pe : Expr) : Bool := match t, e, tg, pe with
  | .tp [.nm i, .nm j, .nm l], .tup [_, _, _], .Tuple [.Name x px, .Name y py, .Name z pz] _ _, .Tuple [pa, pb, pc] _ _ =>
    decide (N[i]? = some x) && decide (N[j]? = some y) && decide (N[l]? = some z) && decide (i ≠ j) && decide (i ≠ l) && decide (j ≠ l) && decide (sc.names.lookup x = some .local) && decide (sc.names.lookup y = some .local) && decide (sc.names.lookup z = some .local) &&
    decide (py.line = px.line) && decide (pz.line = px.line) && decide (sc.kind = .function) && notStar pa && notStar pb && notStar pc && !([pa, pb, pc].all (foldedForSure 8)) && !([pa, pb, pc].all (constantsAlone 8)) && decide (x ≠ y) && decide (x ≠ z) && decide (y ≠ z)
  | _, _, _, _ => false
theorem par3_sw {sc : Scope} {env : Env} {x y z : Str} {px py pz pt pt2 : Pos} {kt k2 : Nat} {pa pb pc : Expr} (he : env.scope = sc) (hx : sc.names.lookup x = some .local) (hy : sc.names.lookup y = some .local) (hz : sc.names.lookup z = some .local) (hl : py.line = px.line) (hl2 : pz.line = px.line) (hk : sc.kind = .function) (hs : notStar pa = true) (hs2 : notStar pb = true) (hs3 : notStar pc = true)
    (hf : [pa, pb, pc].all (foldedForSure 8) = false) (hc : [pa, pb, pc].all (constantsAlone 8) = false) (hxy : x ≠ y) (hxz : x ≠ z) (hyz : y ≠ z) : swappedStores [.Tuple [.Name x px, .Name y py, .Name z pz] kt pt] (.Tuple [pa, pb, pc] k2 pt2) env = pure (some [x, y, z]) := by
  have kx : env.kindOf x = some .local := by unfold Env.kindOf; rw [he]; exact hx
  have ky : env.kindOf y = some .local := by unfold Env.kindOf; rw [he]; exact hy
  have kz : env.kindOf z = some .local := by unfold Env.kindOf; rw [he]; exact hz
  have hb : env.blockKind = .function := by unfold Env.blockKind; rw [he, hk]; rfl
  have hd : (List.eraseDups [x, y, z]).length = 3 := by
    have e : (y == x) = false := by simpa using Ne.symm hxy
    have e2 : (z == x) = false := by simpa using Ne.symm hxz
    have e3 : (z == y) = false := by simpa using Ne.symm hyz
    simp [List.eraseDups_cons, e, e2, e3]
  unfold swappedStores
  simp only [List.length_cons, List.length_nil, hb, hf, hc, kx, ky, kz, Expr.pos, List.head?, Option.map, Option.getD, List.filterMap, hl, hl2]
  simp [hd]
  intro h
  rcases h with h | h | h
  · exfalso; cases pa <;> first | (cases (show false = true from h)) | (cases (show false = true from hs))
  · exfalso; cases pb <;> first | (cases (show false = true from h)) | (cases (show false = true from hs2))
  · exfalso; cases pc <;> first | (cases (show false = true from h)) | (cases (show false = true from hs3))
theorem par_sw {sc : Scope} {env : Env} {x y : Str} {px py pt pt2 : Pos} {kt k2 : Nat} {pa pb : Expr} (he : env.scope = sc) (hx : sc.names.lookup x = some .local) (hy : sc.names.lookup y = some .local) (hl : py.line = px.line) (hk : sc.kind = .function) (hs : notStar pa = true) (hs2 : notStar pb = true)
    (hf : [pa, pb].all (foldedForSure 8) = false) (hc : [pa, pb].all (constantsAlone 8) = false) (hxy : x ≠ y) : swappedStores [.Tuple [.Name x px, .Name y py] kt pt] (.Tuple [pa, pb] k2 pt2) env = pure (some [x, y]) := by
  have kx : env.kindOf x = some .local := by unfold Env.kindOf; rw [he]; exact hx
  have ky : env.kindOf y = some .local := by unfold Env.kindOf; rw [he]; exact hy
  have hb : env.blockKind = .function := by unfold Env.blockKind; rw [he, hk]; rfl
  have key : ∀ e : Expr, notStar e = true → (match e with | .Starred _ _ => true | _ => false) = false := by
    intro e he
    cases e <;> first | rfl | (cases (show false = true from he))
  have hd : (List.eraseDups [x, y]).length = 2 := by
    have e : (y == x) = false := by simpa using Ne.symm hxy
    simp [List.eraseDups_cons, e]
  unfold swappedStores
  simp only [List.length_cons, List.length_nil, hb, hf, hc, kx, ky, Expr.pos, List.head?, Option.map, Option.getD, List.filterMap, hl]
  simp [hd]
  intro h
  rcases h with h | h
  · exfalso; cases pa <;> first | (cases (show false = true from h)) | (cases (show false = true from hs))
  · exfalso; cases pb <;> first | (cases (show false = true from h)) | (cases (show false = true from hs2))
def ckCall (tx : Tx) (N : List Str) (sc : Scope) (f : Nat) (es : List E) (e : Expr) : Bool := match e with
  | .Call (.Name x _) ps ks _ => noKw ks && decide (tx.fns[f]? = some x) && glB sc x && nmB x && ckEs tx N sc es ps && noBs es
  | _ => false
def ckL (tx : Tx) (N : List Str) (sc : Scope) (elt : E) (t : T) (it : I) (own : List Nat) (e : Expr) : Bool := match e with
  | .ListComp pelt [⟨tg, iter, ifs, 0⟩] scope _ => ifs.isEmpty && blkC N sc scope (own.map fun i => ((N[i]?).getD ⟨#[]⟩, i)) && (T.sl t).all (fun j => own.contains j) && notSet iter && ckT N scope t tg && ckI tx N sc false (isTup tg) it iter &&
        ckE tx N (relS scope sc) elt pelt && freshE elt
  | _ => false
def ckSel (tx : Tx) (N : List Str) (sc : Scope) (fs : List Nat) (k : E) (es : List E) (e : Expr) : Bool := match e with
  | .Call (.Subscript (.List ns _) pk _) (pa :: pes) ks _ => noKw ks && ckNms tx sc fs ns && decide (fs.length ≤ 100) && plainSub pk && ckE tx N sc k pk && ckEs tx N sc es (pa :: pes) && noBs es
  | _ => false
def ckPick (tx : Tx) (N : List Str) (sc : Scope) (k f : Nat) (es : List E) (e : Expr) : Bool := match e with
  | .Subscript (.Call (.Name x _) (pa :: pes) ks _) (.Constant (.int n) _ _) _ => noKw ks && decide (n = (k : Int)) && decide (tx.fns[f]? = some x) && glB sc x && nmB x && ckEs tx N sc es (pa :: pes) && noBs es
  | _ => false
def ckPr (tx : Tx) (N : List Str) (sc : Scope) (a b : E) (e : Expr) : Bool := match e with
  | .Tuple [pa, pb] _ _ => notStar pa && notStar pb && ckE tx N sc a pa && noB a && ckE tx N sc b pb && freshE b
  | _ => false
def ckLW (tx : Tx) (N : List Str) (sc : Scope) (f : Nat) (es : List E) (t : T) (it : I) (own : List Nat) (e : Expr) : Bool := match e with
  | .ListComp (.Call (.Name x _) (pa :: pes) ks _) [⟨tg, iter, ifs, 0⟩] scope _ => ifs.isEmpty && blkC N sc scope (own.map fun i => ((N[i]?).getD ⟨#[]⟩, i)) && (T.sl t).all (fun j => own.contains j) && notSet iter && ckT N scope t tg && ckI tx N sc false (isTup tg) it iter &&
        noKw ks && decide (tx.fns[f]? = some x) && glB (relS scope sc) x && nmB x && ckEs tx N (relS scope sc) es (pa :: pes) && noBs es
  | _ => false
def ckNs (tx : Tx) (N : List Str) (sc : Scope) : List E → List Expr → Bool
  | [], ps => ps.isEmpty
  | e :: es, ps => match ps with
    | p :: ps => notStar p && ckE tx N sc e p && freshE e && ckNs tx N sc es ps
    | [] => false
def ckLs (tx : Tx) (N : List Str) (sc : Scope) (es : List E) (e : Expr) : Bool := match e with
  | .List ps _ => ckNs tx N sc es ps
  | _ => false
def ckW (tx : Tx) (N : List Str) (sc : Scope) : WE → Expr → Bool
  | .e e, p => ckE tx N sc e p && noB e
  | .new e, p => ckE tx N sc e p && freshE e
  | .cell e, p => ckE tx N sc e p && freshE e
  | .call f es, e => ckCall tx N sc f es e
  | .sel fs k es, e => ckSel tx N sc fs k es e
  | .compL elt t it own, e => ckL tx N sc elt t it own e
  | .pick k f es, e => ckPick tx N sc k f es e
  | .pr a b, e => ckPr tx N sc a b e
  | .lws es, e => ckLs tx N sc es e
  | .compW f es t it own, e => ckLW tx N sc f es t it own e && isLc e
  | _, _ => false
def augB : Bop → Bool
  | .add => true
  | .sub => true
  | .mul => true
  | _ => false
def nmV (N : List Str) (sc : Scope) (i : Nat) (x : Str) : Bool := decide (N[i]? = some x) && visB sc x && nmB x
/-- the handler: except DrawError as n: return kf(n) -/
def ckHd (tx : Tx) (N : List Str) (sc : Scope) (i : Nat) (ks : List Str) (hs : List ExceptHandler) : Bool := match hs with
  | [.ExceptHandler (some (.Name x _)) (some n) [.Return (some (.Call (.Name kf _) [.Name n' _] kws _)) _] _] =>
    noKw kws && decide (n' = n) && decide (N[i]? = some n) && decide (sc.names.lookup n = some .local) && nmB n && decide (tx.cls[0]? = some x) && glB sc x && nmB x &&
    (match tx.kin with | some (f, ws) => decide (ws = ks) && decide (tx.fns[f]? = some kf) | none => false) && glB sc kf && nmB kf
  | _ => false
def kinB (N : List Str) (sc : Scope) (cs ws : List (List Str)) (ps : List Stmt) : Bool := match cs, ws, N with
  | [c1, c2, c3, c4, c5], [w1, w2], [e, so, wo] => ckKind sc e so wo c1 c2 c3 c4 c5 w1 w2 ps
  | _, _, _ => false
section
variable (tx : Tx) (N : List Str) (sc : Scope)
mutual
def ckS : DD.S → Stmt → Bool
  | .asg t e, p => match p with
    | .Assign [tg] pe _ => ckT N sc t tg && ckE tx N sc e pe && noB e && match tg with
      | .Name _ _ => true
      | _ => isTup tg && !isLc pe && (swNone sc tg pe || par3B N sc t e tg pe)
    | _ => false
  | .asgO i w, p => match p with
    | .Assign [.Name x _] pe _ => decide (N[i]? = some x) && locB sc x && ckW tx N sc w pe
    | _ => false
  | .par i j a b, p => match p with
    | .Assign [.Tuple [.Name x px, .Name y py] _ _] (.Tuple [pa, pb] _ _) _ => parB N sc i j x y px py pa pb && ckE tx N sc a pa && noB a && ckE tx N sc b pb && noB b
    | _ => false
  | .parO _ _ _ _, _ => false
  | .aug i o e, p => match p with
    | .AugAssign (.Name x _) op pe _ => decide (op = bopP o) && augB o && decide (N[i]? = some x) && locB sc x && ckE tx N sc e pe && noB e
    | _ => false
  | .setI i k e, p => match p with
    | .Assign [.Subscript (.Name x _) pk _] pe _ => nmV N sc i x && plainSub pk && ckE tx N sc k pk && noB k && ckE tx N sc e pe && noB e
    | _ => false
  | .putD i k e, p => match p with
    | .Assign [.Subscript (.Name x _) pk _] pe _ => nmV N sc i x && ckE tx N sc k pk && noB k && ckE tx N sc e pe && noB e
    | _ => false
  | .setC i k e, p => match p with
    | .Assign [.Subscript (.Name x _) pk _] pe _ => nmV N sc i x && plainSub pk && ckE tx N sc k pk && noB k && ckE tx N sc e pe && noB e
    | _ => false
  | .setII i k l e, p => match p with
    | .Assign [.Subscript (.Subscript (.Name x _) pk _) pl _] pe _ => nmV N sc i x && plainSub pk && plainSub pl && ckE tx N sc k pk && noB k && ckE tx N sc l pl && noB l && ckE tx N sc e pe && noB e
    | _ => false
  | .app i e, p => match p with
    | .Expr (.Call (.Attribute (.Name x _) m ap) [pe] ks cp) _ => noKw ks && decide (m = ("append" : Str)) && (ap.endLine == cp.line) && nmV N sc i x && notStar pe && ckE tx N sc e pe && noB e
    | _ => false
  | .ret2 i j, p => match p with
    | .Return (some (.Tuple [.Name x _, .Name y _] _ _)) _ => decide (i ≠ j) && nmV N sc i x && nmV N sc j y
    | _ => false
  | .appI i k e, p => match p with
    | .Expr (.Call (.Attribute (.Subscript (.Name x _) pk _) m ap) [pe] ks cp) _ => noKw ks && decide (m = ("append" : Str)) && (ap.endLine == cp.line) && nmV N sc i x && plainSub pk && ckE tx N sc k pk && noB k && notStar pe && ckE tx N sc e pe && noB e
    | _ => false
  | .ext i e, p => match p with
    | .Expr (.Call (.Attribute (.Name x _) m ap) [pe] ks cp) _ => noKw ks && decide (m = ("extend" : Str)) && (ap.endLine == cp.line) && nmV N sc i x && notStar pe && ckE tx N sc e pe && noB e
    | _ => false
  | .expr e, p => match p with
    | .Expr pe _ => !isLc pe && ckE tx N sc e pe && noB e
    | _ => false
  | .ife c a b, p => match p with
    | .If pc A B _ => ckE tx N sc c pc && noB c && noIf pc && ckSs a A && ckSs b B
    | _ => false
  | .whl c b, p => match p with
    | .While pc B o _ => o.isEmpty && ckE tx N sc c pc && noB c && noIf pc && ckSs b B
    | _ => false
  | .for_ t it b, p => match p with
    | .For tg iter B o _ => o.isEmpty && notSet iter && ckT N sc t tg && ckI tx N sc true (isTup tg) it iter && ckSs b B
    | _ => false
  | .forI t it c b, p => match p with
    | .For tg iter [.If pc A [] _] o _ => o.isEmpty && notSet iter && ckT N sc t tg && ckI tx N sc false (isTup tg) it iter && ckE tx N sc c pc && noB c && noIf pc && ckSs b A
    | _ => false
  | .ret e, p => match p with
    | .Return (some pe) _ => ckE tx N sc e pe && noB e
    | _ => false
  | .retW w, p => match p with
    | .Return (some pe) _ => match w, pe with
      | .mv i, .Name x _ => nmV N sc i x
      | _, _ => ckW tx N sc w pe
    | _ => false
  | .rais c, p => match p with
    | .Raise (some (.Call (.Name x _) [.Constant (.str _) _ _] ks _)) none _ => noKw ks && decide (tx.cls[c]? = some x) && glB sc x && nmB x
    | _ => false
  | .tri b i ks, p => match p with
    | .Try B hs els fin _ => els.isEmpty && fin.isEmpty && ckHd tx N sc i ks hs && ckSs b B
    | _ => false
  | .kin _ _, _ => false
  | .frz _, _ => false
  | .lockD _, _ => false
  | .junk, _ => true
  | .pass, p => match p with
    | .Pass _ => true
    | _ => false
def ckSs : List DD.S → List Stmt → Bool
  | [], ps => ps.isEmpty
  | s :: ss, ps => match s with
    | .frz _ => ckSs ss ps
    | .lockD _ => ckSs ss ps
    | .kin cs ws => ss.isEmpty && kinB N sc cs ws ps
    | s => match ps with
      | p :: ps => ckS s p && ckSs ss ps
      | [] => false
end
end
structure XB (tx : Tx) (N : List Str) (X : Cx) (S : Sg) (k : Nat) (sc : Scope) : Prop where
  ok : XOk tx N X S k sc
  fn : ∀ x, X.fn x = true
  po : PassesOwn (model X.prog X.w) X.A X.env X.xe
  stk : X.stack = X.env :: X.outer
  frm : X.env.frame = some X.env.locals
section
variable {tx : Tx} {N : List Str} {X : Cx} {S : Sg} {k : Nat} {sc : Scope}
theorem sNs (ok : XOk tx N X S k sc) : ∀ {es : List E} {ps : List Expr}, ckNs tx N sc es ps = true → PA X ps (tEs S (rOs S.K) es)
  | [], ps, h => by
    unfold ckNs at h
    cases ps <;> first | exact es_nilL | cases h
  | e :: es, ps, h => by
    unfold ckNs at h
    cases ps with
    | nil => cases h
    | cons p ps =>
      simp only [Bool.and_eq_true] at h
      exact es_consL h.1.1.1 (sN ok h.1.1.2 h.1.2) (sNs ok h.2)
theorem XB.loc (o : XB tx N X S k sc) {x : Str} (h : locB sc x = true) : Loc X.env.scope x := by rw [o.ok.sc_]; exact locB_ok h
theorem comp_of {e : E} {pe : Expr} (h : ckE tx N sc e pe = true) (hl : isLc pe = true) : ∃ elt t it cond own, e = .comp elt t it cond own := by
  cases pe <;> first | (cases (show false = true from hl)) | skip
  all_goals (cases e <;> first | exact ⟨_, _, _, _, _, rfl⟩ | (exfalso; unfold ckE at h; first | cases h | (simp at h)))
/-- name = an expression -/
theorem sPN (o : XB tx N X S k sc) {i : Nat} {x : Str} {px pos : Pos} {e : E} {pe : Expr} (hi : N[i]? = some x) (hx : locB sc x = true) (h : ckE tx N sc e pe = true) : (freshE e = true → PN X i x px pe pos (tN S e)) ∧ (noB e = true → PN X i x px pe pos (tF S e)) := by
  have hN : X.N.Nodup := by rw [o.ok.N_]; exact o.ok.nd
  have hi' : X.N[i]? = some x := by rw [o.ok.N_]; exact hi
  cases hl : isLc pe with
  | false => exact ⟨fun hf => PN.of hN hi' (o.loc hx) (.inl (o.fn x)) hl (sN o.ok h hf), fun hb => PN.of hN hi' (o.loc hx) (.inl (o.fn x)) hl (sE o.ok h hb)⟩
  | true =>
    obtain ⟨elt, t, it, cond, own, rfl⟩ := comp_of h hl
    have key : PN X i x px pe pos (tN S (.comp elt t it cond own)) := by
      unfold ckE at h
      split at h <;> try cases h
      simp only [Bool.and_eq_true] at h
      obtain ⟨⟨⟨⟨⟨⟨⟨h1, h2⟩, h3⟩, h4⟩, h5⟩, h6⟩, h7⟩, h8⟩ := h
      refine PN.lc (ownN := own.map fun i => ((N[i]?).getD ⟨#[]⟩, i)) hi' (o.loc hx) (.inl (o.fn x)) o.ok.K o.ok.calm hN (blkOk_by (by rw [o.ok.N_, o.ok.sc_]; exact h1)) (by simp [List.map_map, Function.comp_def]) (fun j hj => ?_) h3
        (sI o.ok h5) (sG_blk o.ok h4) (fun s H C cl fp => sC o.ok.blk h6) (fun s H C cl fp => sE o.ok.blk h7 h8)
      have := List.all_eq_true.mp h2 j hj
      simpa using this
    exact ⟨fun _ => key, fun _ => key.mono fun _ _ _ => tE_FN⟩
theorem sPW (o : XB tx N X S k sc) {i : Nat} {x : Str} {px pos : Pos} {w : WE} {pe : Expr} (hi : N[i]? = some x) (hx : locB sc x = true) (h : ckW tx N sc w pe = true) : PN X i x px pe pos (tW S w) := by
  have hN : X.N.Nodup := by rw [o.ok.N_]; exact o.ok.nd
  have hi' : X.N[i]? = some x := by rw [o.ok.N_]; exact hi
  cases w with
  | sel fs ke es =>
    replace h : ckSel tx N sc fs ke es pe = true := h
    unfold ckSel at h
    split at h <;> try cases h
    simp only [Bool.and_eq_true, decide_eq_true_eq] at h
    obtain ⟨⟨⟨⟨⟨⟨h1, h2⟩, h3⟩, h4⟩, h5⟩, h6⟩, h7⟩ := h
    have := noKw_nil h1; subst this
    exact PN.of hN hi' (o.loc hx) (.inl (o.fn x)) rfl (w_sel o.ok h2 h3 (plainIx_of h4) (sB o.ok h5) (ckEs_star h6) (sFs o.ok h6 h7))
  | pick n f es =>
    replace h : ckPick tx N sc n f es pe = true := h
    unfold ckPick at h
    split at h <;> try cases h
    simp only [Bool.and_eq_true, decide_eq_true_eq] at h
    obtain ⟨⟨⟨⟨⟨⟨h1, rfl⟩, h2⟩, h3⟩, h4⟩, h6⟩, h7⟩ := h
    have := noKw_nil h1; subst this
    exact PN.of hN hi' (o.loc hx) (.inl (o.fn x)) rfl (w_pick o.ok.K (o.ok.fns _ _ h2) o.ok.room o.ok.tk (o.ok.gl h3) (nmB_ok h4).1 (ckEs_star h6) (sFs o.ok h6 h7))
  | lws es =>
    replace h : ckLs tx N sc es pe = true := h
    unfold ckLs at h
    split at h <;> try cases h
    exact PN.of hN hi' (o.loc hx) (.inl (o.fn x)) rfl (w_lws (sNs o.ok h))
  | pr a b =>
    replace h : ckPr tx N sc a b pe = true := h
    unfold ckPr at h
    split at h <;> try cases h
    simp only [Bool.and_eq_true] at h
    obtain ⟨⟨⟨⟨⟨h1, h2⟩, h3⟩, h4⟩, h5⟩, h6⟩ := h
    exact PN.of hN hi' (o.loc hx) (.inl (o.fn x)) rfl (w_pr h1 h2 (sE o.ok h3 h4) (sN o.ok h5 h6))
  | compW f es t it own =>
    replace h : (ckLW tx N sc f es t it own pe && isLc pe) = true := h
    rw [Bool.and_eq_true] at h
    replace h := h.1
    unfold ckLW at h
    split at h <;> try cases h
    simp only [Bool.and_eq_true, decide_eq_true_eq] at h
    obtain ⟨⟨⟨⟨⟨⟨⟨⟨⟨⟨⟨h0, h1⟩, h2⟩, h3⟩, h4⟩, h5⟩, h6⟩, h7⟩, h8⟩, h9⟩, h10⟩, h11⟩ := h
    rw [List.isEmpty_iff] at h0; subst h0
    have := noKw_nil h6; subst this
    refine PN.lcW (ownN := own.map fun i => ((N[i]?).getD ⟨#[]⟩, i)) hi' (o.loc hx) (.inl (o.fn x)) o.ok.calm hN (blkOk_by (by rw [o.ok.N_, o.ok.sc_]; exact h1)) (by simp [List.map_map, Function.comp_def]) (fun j hj => ?_) h3
      (sI o.ok h5) (sG_blk o.ok h4) (fun s H C cl fp => sC o.ok.blk (by unfold ckC; rfl)) (fun s H C cl fp => w_call (o.ok.blk.fns _ _ h7) o.ok.blk.room o.ok.blk.tk (o.ok.blk.gl h8) (nmB_ok h9).1 (ckEs_star h10) (sFs o.ok.blk h10 h11))
    have := List.all_eq_true.mp h2 j hj
    simpa using this
  | mv => cases h
  | tw => cases h
  | compL elt t it own =>
    replace h : ckL tx N sc elt t it own pe = true := h
    unfold ckL at h
    split at h <;> try cases h
    simp only [Bool.and_eq_true] at h
    obtain ⟨⟨⟨⟨⟨⟨⟨h0, h1⟩, h2⟩, h3⟩, h4⟩, h5⟩, h6⟩, h7⟩ := h
    rw [List.isEmpty_iff] at h0; subst h0
    refine PN.lcL (ownN := own.map fun i => ((N[i]?).getD ⟨#[]⟩, i)) hi' (o.loc hx) (.inl (o.fn x)) o.ok.calm hN (blkOk_by (by rw [o.ok.N_, o.ok.sc_]; exact h1)) (by simp [List.map_map, Function.comp_def]) (fun j hj => ?_) h3
      (sI o.ok h5) (sG_blk o.ok h4) (fun s H C cl fp => sC o.ok.blk (by unfold ckC; rfl)) (fun s H C cl fp => sN o.ok.blk h6 h7)
    have := List.all_eq_true.mp h2 j hj
    simpa using this
  | e e =>
    simp only [ckW, Bool.and_eq_true] at h
    exact ((sPN o hi hx h.1).2 h.2).mono fun _ _ _ => tW_e
  | new e =>
    simp only [ckW, Bool.and_eq_true] at h
    exact ((sPN o hi hx h.1).1 h.2).mono fun _ _ _ => tW_new
  | cell e =>
    simp only [ckW, Bool.and_eq_true] at h
    exact ((sPN o hi hx h.1).1 h.2).mono fun _ _ _ => tW_cell
  | call f es =>
    replace h : ckCall tx N sc f es pe = true := h
    unfold ckCall at h
    split at h <;> try cases h
    rename_i y p ps ks p2
    simp only [Bool.and_eq_true, decide_eq_true_eq] at h
    obtain ⟨⟨⟨⟨⟨h1, h2⟩, h3⟩, h4⟩, h6⟩, h7⟩ := h
    have := noKw_nil h1; subst this
    cases ps with
    | nil => exact PN.of hN hi' (o.loc hx) (.inl (o.fn x)) rfl (by
        have := ckEs_nil h6; subst this
        exact w_call0 (o.ok.fns _ y h2) o.ok.room o.ok.tk (o.ok.gl h3) (nmB_ok h4).1)
    | cons p0 ps => exact PN.of hN hi' (o.loc hx) (.inl (o.fn x)) rfl (w_call (o.ok.fns _ y h2) o.ok.room o.ok.tk (o.ok.gl h3) (nmB_ok h4).1 (ckEs_star h6) (sFs o.ok h6 h7))
theorem sRW (o : XB tx N X S k sc) {w : WE} {pe : Expr} (h : ckW tx N sc w pe = true) : PE X pe (tW S w) := by
  cases w with
  | sel fs ke es =>
    replace h : ckSel tx N sc fs ke es pe = true := h
    unfold ckSel at h
    split at h <;> try cases h
    simp only [Bool.and_eq_true, decide_eq_true_eq] at h
    obtain ⟨⟨⟨⟨⟨⟨h1, h2⟩, h3⟩, h4⟩, h5⟩, h6⟩, h7⟩ := h
    have := noKw_nil h1; subst this
    exact w_sel o.ok h2 h3 (plainIx_of h4) (sB o.ok h5) (ckEs_star h6) (sFs o.ok h6 h7)
  | pick n f es =>
    replace h : ckPick tx N sc n f es pe = true := h
    unfold ckPick at h
    split at h <;> try cases h
    simp only [Bool.and_eq_true, decide_eq_true_eq] at h
    obtain ⟨⟨⟨⟨⟨⟨h1, rfl⟩, h2⟩, h3⟩, h4⟩, h6⟩, h7⟩ := h
    have := noKw_nil h1; subst this
    exact (w_pick o.ok.K (o.ok.fns _ _ h2) o.ok.room o.ok.tk (o.ok.gl h3) (nmB_ok h4).1 (ckEs_star h6) (sFs o.ok h6 h7))
  | lws es =>
    replace h : ckLs tx N sc es pe = true := h
    unfold ckLs at h
    split at h <;> try cases h
    exact w_lws (sNs o.ok h)
  | pr a b =>
    replace h : ckPr tx N sc a b pe = true := h
    unfold ckPr at h
    split at h <;> try cases h
    simp only [Bool.and_eq_true] at h
    obtain ⟨⟨⟨⟨⟨h1, h2⟩, h3⟩, h4⟩, h5⟩, h6⟩ := h
    exact (w_pr h1 h2 (sE o.ok h3 h4) (sN o.ok h5 h6))
  | compW f es t it own =>
    replace h : (ckLW tx N sc f es t it own pe && isLc pe) = true := h
    rw [Bool.and_eq_true] at h
    replace h := h.1
    unfold ckLW at h
    split at h <;> try cases h
    simp only [Bool.and_eq_true, decide_eq_true_eq] at h
    obtain ⟨⟨⟨⟨⟨⟨⟨⟨⟨⟨⟨h0, h1⟩, h2⟩, h3⟩, h4⟩, h5⟩, h6⟩, h7⟩, h8⟩, h9⟩, h10⟩, h11⟩ := h
    rw [List.isEmpty_iff] at h0; subst h0
    have := noKw_nil h6; subst this
    refine e_compW (ownN := own.map fun i => ((N[i]?).getD ⟨#[]⟩, i)) o.ok.calm (by rw [o.ok.N_]; exact o.ok.nd) (blkOk_by (by rw [o.ok.N_, o.ok.sc_]; exact h1)) (by simp [List.map_map, Function.comp_def]) (fun j hj => ?_) h3
      (sI o.ok h5) (sG_blk o.ok h4) (fun s H C cl fp => sC o.ok.blk (by unfold ckC; rfl)) (fun s H C cl fp => w_call (o.ok.blk.fns _ _ h7) o.ok.blk.room o.ok.blk.tk (o.ok.blk.gl h8) (nmB_ok h9).1 (ckEs_star h10) (sFs o.ok.blk h10 h11))
    have := List.all_eq_true.mp h2 j hj
    simpa using this
  | mv => cases h
  | tw => cases h
  | compL elt t it own =>
    replace h : ckL tx N sc elt t it own pe = true := h
    unfold ckL at h
    split at h <;> try cases h
    simp only [Bool.and_eq_true] at h
    obtain ⟨⟨⟨⟨⟨⟨⟨h0, h1⟩, h2⟩, h3⟩, h4⟩, h5⟩, h6⟩, h7⟩ := h
    rw [List.isEmpty_iff] at h0; subst h0
    refine e_compL (ownN := own.map fun i => ((N[i]?).getD ⟨#[]⟩, i)) o.ok.calm (by rw [o.ok.N_]; exact o.ok.nd) (blkOk_by (by rw [o.ok.N_, o.ok.sc_]; exact h1)) (by simp [List.map_map, Function.comp_def]) (fun j hj => ?_) h3
      (sI o.ok h5) (sG_blk o.ok h4) (fun s H C cl fp => sC o.ok.blk (by unfold ckC; rfl)) (fun s H C cl fp => sN o.ok.blk h6 h7)
    have := List.all_eq_true.mp h2 j hj
    simpa using this
  | e e =>
    simp only [ckW, Bool.and_eq_true] at h
    exact (sE o.ok h.1 h.2).mono fun _ _ _ => tW_e
  | new e =>
    simp only [ckW, Bool.and_eq_true] at h
    exact (sN o.ok h.1 h.2).mono fun _ _ _ => tW_new
  | cell e =>
    simp only [ckW, Bool.and_eq_true] at h
    exact (sN o.ok h.1 h.2).mono fun _ _ _ => tW_cell
  | call f es =>
    replace h : ckCall tx N sc f es pe = true := h
    unfold ckCall at h
    split at h <;> try cases h
    rename_i y p ps ks p2
    simp only [Bool.and_eq_true, decide_eq_true_eq] at h
    obtain ⟨⟨⟨⟨⟨h1, h2⟩, h3⟩, h4⟩, h6⟩, h7⟩ := h
    have := noKw_nil h1; subst this
    cases ps with
    | nil =>
      have := ckEs_nil h6; subst this
      exact w_call0 (o.ok.fns _ y h2) o.ok.room o.ok.tk (o.ok.gl h3) (nmB_ok h4).1
    | cons p0 ps => exact w_call (o.ok.fns _ y h2) o.ok.room o.ok.tk (o.ok.gl h3) (nmB_ok h4).1 (ckEs_star h6) (sFs o.ok h6 h7)
theorem nmV_ok (o : XB tx N X S k sc) {i : Nat} {x : Str} (h : nmV N sc i x = true) : X.N[i]? = some x ∧ Vis X.env.scope x ∧ (x == ("__debug__" : Str)) = false ∧ (x == ("__classdict__" : Str)) = false := by
  unfold nmV at h
  simp only [Bool.and_eq_true, decide_eq_true_eq] at h
  exact ⟨by rw [o.ok.N_]; exact h.1.1, by rw [o.ok.sc_]; exact visB_ok h.1.2, (nmB_ok h.2).1, (nmB_ok h.2).2⟩
theorem sGt (o : XB tx N X S k sc) {t : T} {tg : Expr} (h : ckT N sc t tg = true) : PG X tg (gT S.K t) := by
  rw [← o.ok.K]
  exact sG (by rw [o.ok.N_]; exact o.ok.nd) o.ok.N_ o.ok.calm (fun x hx => ⟨o.loc hx, .inl (o.fn x)⟩) h
mutual
theorem sS : ∀ {X : Cx} {S : Sg} {s : DD.S} {p : Stmt}, XB tx N X S k sc → ckS tx N sc s p = true → PS X p (tS S s)
  | X, S, .asg t e, p, o, h => by
    unfold ckS at h
    split at h <;> try cases h
    rename_i tg pe pos
    simp only [Bool.and_eq_true] at h
    obtain ⟨⟨⟨h1, h2⟩, h3⟩, h4⟩ := h
    split at h4
    · rename_i x px
      cases t with
      | nm i =>
        unfold ckT at h1
        simp only [Bool.and_eq_true, decide_eq_true_eq] at h1
        exact s_asgN ((sPN o h1.1 h1.2 h2).2 h3)
      | tp ts => unfold ckT at h1; cases h1
    · simp only [Bool.and_eq_true, Bool.or_eq_true] at h4
      rcases h4.2 with h5 | h5
      · refine s_asgT (sE o.ok h2 h3) (sGt o h1) (sw_plain (by simpa using h4.1.2)) (swNone_ok o.ok.sc_ h5 h4.1.1) ?_
        have ht := h4.1.1
        cases tg <;> first | rfl | cases ht
      · unfold par3B at h5
        split at h5 <;> try cases h5
        simp only [Bool.and_eq_true, decide_eq_true_eq] at h5
        obtain ⟨⟨⟨⟨⟨⟨⟨⟨⟨⟨⟨⟨⟨⟨⟨⟨⟨⟨⟨q1, q2⟩, q3⟩, q4⟩, q5⟩, q6⟩, q7⟩, q8⟩, q9⟩, q10⟩, q11⟩, q12⟩, q13⟩, q14⟩, q15⟩, q16⟩, q17⟩, q18⟩, q19⟩, q20⟩ := h5
        unfold ckE at h2
        rw [Bool.and_eq_true] at h2
        exact s_par3 o.ok.calm (by rw [o.ok.N_]; exact o.ok.nd) (by rw [o.ok.N_]; exact q1) (by rw [o.ok.N_]; exact q2) (by rw [o.ok.N_]; exact q3) q4 q5 q6 (by rw [o.ok.sc_]; exact q7) (by rw [o.ok.sc_]; exact q8) (by rw [o.ok.sc_]; exact q9)
          (par3_sw o.ok.sc_ q7 q8 q9 q10 q11 q12 q13 q14 q15 (by simpa only [Bool.not_eq_true'] using q16) (by simpa only [Bool.not_eq_true'] using q17) q18 q19 q20) (sFs o.ok h2.1 h2.2)
  | X, S, .asgO i w, p, o, h => by
    unfold ckS at h
    split at h <;> try cases h
    simp only [Bool.and_eq_true, decide_eq_true_eq] at h
    exact s_asgW (sPW o h.1.1 h.1.2 h.2)
  | X, S, .par i j a b, p, o, h => by
    unfold ckS at h
    split at h <;> try cases h
    simp only [Bool.and_eq_true, decide_eq_true_eq, parB] at h
    obtain ⟨⟨⟨⟨hp, h1⟩, h2⟩, h3⟩, h4⟩ := h
    obtain ⟨⟨⟨⟨⟨⟨⟨⟨⟨⟨⟨q1, q2⟩, q3⟩, q4⟩, q5⟩, q6⟩, q7⟩, q8⟩, q9⟩, q10⟩, q11⟩, q12⟩ := hp
    exact s_par o.ok.calm (by rw [o.ok.N_]; exact o.ok.nd) (by rw [o.ok.N_]; exact q1) (by rw [o.ok.N_]; exact q2) q3 (by rw [o.ok.sc_]; exact q4) (by rw [o.ok.sc_]; exact q5)
      (par_sw o.ok.sc_ q4 q5 q6 q7 q8 q9 (by simpa only [Bool.not_eq_true'] using q10) (by simpa only [Bool.not_eq_true'] using q11) q12) q8 q9 (sE o.ok h1 h2) (sE o.ok h3 h4)
  | X, S, .parO _ _ _ _, _, o, h => by unfold ckS at h; cases h
  | X, S, .aug i op e, p, o, h => by
    unfold ckS at h
    split at h <;> try cases h
    simp only [Bool.and_eq_true, decide_eq_true_eq] at h
    obtain ⟨⟨⟨⟨⟨rfl, h1⟩, h2⟩, h3⟩, h4⟩, h5⟩ := h
    exact s_aug (by cases op <;> first | exact .inl rfl | exact .inr (.inl rfl) | exact .inr (.inr rfl) | cases h1) (by rw [o.ok.N_]; exact o.ok.nd) (by rw [o.ok.N_]; exact h2) (o.loc h3) (.inl (o.fn _)) (sE o.ok h4 h5)
  | X, S, .setI i k e, p, o, h => by
    unfold ckS at h
    split at h <;> try cases h
    simp only [Bool.and_eq_true] at h
    obtain ⟨⟨⟨⟨⟨h1, h2⟩, h3⟩, h4⟩, h5⟩, h6⟩ := h
    obtain ⟨q1, q2, q3, q4⟩ := nmV_ok o h1
    exact s_setI q1 q2 q3 q4 h2 (sE o.ok h5 h6) (sE o.ok h3 h4)
  | X, S, .putD i k e, p, o, h => by
    unfold ckS at h
    split at h <;> try cases h
    simp only [Bool.and_eq_true] at h
    obtain ⟨⟨⟨⟨h1, h3⟩, h4⟩, h5⟩, h6⟩ := h
    obtain ⟨q1, q2, q3, q4⟩ := nmV_ok o h1
    exact s_putD (by have := o.ok.hu; omega) q1 q2 q3 q4 (sE o.ok h5 h6) (sE o.ok h3 h4)
  | X, S, .setC i k e, p, o, h => by
    unfold ckS at h
    split at h <;> try cases h
    simp only [Bool.and_eq_true] at h
    obtain ⟨⟨⟨⟨⟨h1, h2⟩, h3⟩, h4⟩, h5⟩, h6⟩ := h
    obtain ⟨q1, q2, q3, q4⟩ := nmV_ok o h1
    exact s_setC q1 q2 q3 q4 h2 (sE o.ok h5 h6) (sE o.ok h3 h4)
  | X, S, .setII i k l e, p, o, h => by
    unfold ckS at h
    split at h <;> try cases h
    simp only [Bool.and_eq_true] at h
    obtain ⟨⟨⟨⟨⟨⟨⟨⟨h1, h2⟩, h2'⟩, h3⟩, h4⟩, h5⟩, h6⟩, h7⟩, h8⟩ := h
    obtain ⟨q1, q2, q3, q4⟩ := nmV_ok o h1
    exact s_setII o.ok.K q1 q2 q3 q4 h2 h2' (sE o.ok h7 h8) (sE o.ok h3 h4) (sE o.ok h5 h6)
  | X, S, .app i e, p, o, h => by
    unfold ckS at h
    split at h <;> try cases h
    simp only [Bool.and_eq_true, decide_eq_true_eq] at h
    obtain ⟨⟨⟨⟨⟨⟨h0, rfl⟩, h1⟩, h2⟩, h3⟩, h4⟩, h5⟩ := h
    have := noKw_nil h0; subst this
    obtain ⟨q1, q2, q3, q4⟩ := nmV_ok o h2
    exact s_app q1 q2 q3 q4 h3 h1 (sE o.ok h4 h5)
  | X, S, .ret2 i j, p, o, h => by
    unfold ckS at h
    split at h <;> try cases h
    simp only [Bool.and_eq_true, decide_eq_true_eq] at h
    obtain ⟨⟨h1, h2⟩, h3⟩ := h
    obtain ⟨a1, a2, a3, a4⟩ := nmV_ok o h2
    obtain ⟨b1, b2, b3, b4⟩ := nmV_ok o h3
    exact s_ret2 h1 a1 a2 a3 a4 b1 b2 b3 b4
  | X, S, .appI i k e, p, o, h => by
    unfold ckS at h
    split at h <;> try cases h
    simp only [Bool.and_eq_true, decide_eq_true_eq] at h
    obtain ⟨⟨⟨⟨⟨⟨⟨⟨⟨h1, rfl⟩, h3⟩, h4⟩, h5⟩, h6⟩, h7⟩, h8⟩, h9⟩, h10⟩ := h
    have := noKw_nil h1; subst this
    obtain ⟨a1, a2, a3, a4⟩ := nmV_ok o h4
    exact s_appI o.ok.K a1 a2 a3 a4 h5 h8 h3 (sE o.ok h9 h10) (sE o.ok h6 h7)
  | X, S, .ext i e, p, o, h => by
    unfold ckS at h
    split at h <;> try cases h
    simp only [Bool.and_eq_true, decide_eq_true_eq] at h
    obtain ⟨⟨⟨⟨⟨⟨h0, rfl⟩, h1⟩, h2⟩, h3⟩, h4⟩, h5⟩ := h
    have := noKw_nil h0; subst this
    obtain ⟨q1, q2, q3, q4⟩ := nmV_ok o h2
    exact s_ext q1 q2 q3 q4 h3 h1 (sE o.ok h4 h5)
  | X, S, .expr e, p, o, h => by
    unfold ckS at h
    split at h <;> try cases h
    simp only [Bool.and_eq_true] at h
    exact s_expr (by simpa using h.1.1) (sE o.ok h.1.2 h.2)
  | X, S, .ife c a b, p, o, h => by
    unfold ckS at h
    split at h <;> try cases h
    simp only [Bool.and_eq_true] at h
    obtain ⟨⟨⟨⟨h1, h2⟩, h3⟩, h4⟩, h5⟩ := h
    exact s_ife (sT o.ok h1 h2 h3) (sSs o h4) (sSs o h5)
  | X, S, .whl c b, p, o, h => by
    unfold ckS at h
    split at h <;> try cases h
    rename_i pc B els pos
    simp only [Bool.and_eq_true] at h
    obtain ⟨⟨⟨⟨h0, h1⟩, h2⟩, h3⟩, h4⟩ := h
    cases els with
    | nil => exact s_whl o.po (sT o.ok h1 h2 h3) (sSs o h4)
    | cons e es => cases h0
  | X, S, .for_ t it b, p, o, h => by
    unfold ckS at h
    split at h <;> try cases h
    rename_i tg iter B els pos
    simp only [Bool.and_eq_true] at h
    obtain ⟨⟨⟨⟨h0, h1⟩, h2⟩, h3⟩, h4⟩ := h
    cases els with
    | nil => exact s_for o.ok.K o.po o.ok.calm h1 (sI o.ok h3) (sGt o h2) (sSs o h4)
    | cons e es => cases h0
  | X, S, .forI t it c b, p, o, h => by
    unfold ckS at h
    split at h <;> try cases h
    rename_i tg iter pc A ipos els pos
    simp only [Bool.and_eq_true] at h
    obtain ⟨⟨⟨⟨⟨⟨⟨h0, h1⟩, h2⟩, h3⟩, h4⟩, h5⟩, h6⟩, h7⟩ := h
    cases els with
    | nil => exact s_forI o.po o.ok.calm h1 (sI o.ok h3) (sGt o h2) (sT o.ok h4 h5 h6) (sSs o h7)
    | cons e es => cases h0
  | X, S, .ret e, p, o, h => by
    unfold ckS at h
    split at h <;> try cases h
    rw [Bool.and_eq_true] at h
    exact s_ret (sE o.ok h.1 h.2)
  | X, S, .retW w, p, o, h => by
    unfold ckS at h
    split at h <;> try cases h
    split at h
    · obtain ⟨q1, q2, q3, q4⟩ := nmV_ok o h
      exact s_retMv q1 q2 q3 q4
    · exact s_retW (sRW o h)
  | X, S, .rais c, p, o, h => by
    unfold ckS at h
    split at h <;> try cases h
    simp only [Bool.and_eq_true, decide_eq_true_eq] at h
    obtain ⟨⟨⟨h0, h1⟩, h2⟩, h3⟩ := h
    have := noKw_nil h0; subst this
    obtain ⟨e1, e2, e3, e4, e5⟩ := o.ok.exc c _ h1
    exact s_rais o.ok.calm o.ok.tk e1 e2 e3 e4 e5 (o.ok.gl h2) (nmB_ok h3).1
  | X, S, .tri b i ks, p, o, h => by
    unfold ckS at h
    split at h <;> try cases h
    rename_i B hs els fin pos
    simp only [Bool.and_eq_true, List.isEmpty_iff] at h
    obtain ⟨⟨⟨rfl, rfl⟩, hh⟩, hB⟩ := h
    unfold ckHd at hh
    split at hh <;> try cases hh
    simp only [Bool.and_eq_true, decide_eq_true_eq] at hh
    obtain ⟨⟨⟨⟨⟨⟨⟨⟨⟨⟨h1, rfl⟩, h2⟩, h3⟩, h4⟩, h5⟩, h6⟩, h7⟩, h8⟩, h9⟩, h10⟩ := hh
    have := noKw_nil h1; subst this
    cases ek : tx.kin with
    | none => rw [ek] at h8; cases h8
    | some fw =>
      obtain ⟨f, ws⟩ := fw
      rw [ek] at h8
      simp only [Bool.and_eq_true, decide_eq_true_eq] at h8
      obtain ⟨rfl, hfn⟩ := h8
      rename_i x _ kf _ n _ _ _ _
      have hloc : X.env.scope.names.lookup n = some .local := by rw [o.ok.sc_]; exact h3
      exact s_tri o.stk o.frm (by rw [o.ok.N_]; exact o.ok.nd) (by rw [o.ok.N_]; exact h2) hloc (.inl hloc) (nmB_ok h4).1 (nmB_ok h4).2 ⟨o.ok.gl h6, (nmB_ok h7).1, .inl (o.ok.exc 0 _ h5).g⟩ o.ok.tk o.ok.room (fun c word e => o.ok.kin f _ _ c word ek hfn e) (o.ok.gl h9) (nmB_ok h10).1
        (fun W pn xe tk po => sSs (X := X.tr pn xe) (S := { S with W := W }) ⟨⟨o.ok.K, o.ok.N_, o.ok.sc_, o.ok.nd, o.ok.calm, o.ok.room, tk, o.ok.free, fun f x e => by
            obtain ⟨fa, fd, ps, q1, q2, q3, q4⟩ := (o.ok.fns f x e).ex
            exact ⟨fa, fd, ps, q1, q2, q3, q4⟩, o.ok.glos, fun c x e => by
            obtain ⟨q1, q2, q3, q4, q5⟩ := o.ok.exc c x e
            exact ⟨q1, q2, q3, q4, q5⟩, fun f ws x c word e1 e2 e3 => by
            obtain ⟨q1, q2⟩ := o.ok.kin f ws x c word e1 e2 e3
            exact ⟨q1, q2⟩⟩, o.fn, po, o.stk, o.frm⟩ hB)
  | X, S, .kin _ _, _, o, h => by unfold ckS at h; cases h
  | X, S, .frz _, _, o, h => by unfold ckS at h; cases h
  | X, S, .lockD _, _, o, h => by unfold ckS at h; cases h
  | X, S, .junk, p, o, h => s_junk
  | X, S, .pass, p, o, h => by
    unfold ckS at h
    split at h <;> try cases h
    exact s_pass
theorem sSs : ∀ {X : Cx} {S : Sg} {ss : List DD.S} {ps : List Stmt}, XB tx N X S k sc → ckSs tx N sc ss ps = true → PSs X ps (tSs S ss)
  | X, S, [], ps, o, h => by
    unfold ckSs at h
    cases ps <;> first | exact ss_nil | cases h
  | X, S, s :: ss, ps, o, h => by
    unfold ckSs at h
    split at h
    · exact ss_frz (sSs o h)
    · exact ss_lockD (sSs o h)
    · exact ⟨fun pins s σ H D I ⟨g, st, env, at_, q⟩ => by
        simp only [evSs, evS] at q
        exact q.elim⟩
    · split at h <;> try cases h
      rw [Bool.and_eq_true] at h
      exact ss_cons (sS o h.1) (sSs o h.2)
end
end
end DDS

set_option Elab.async false
set_option linter.all false
set_option maxRecDepth 100000
set_option maxHeartbeats 8000000
namespace DDS
open PySem PySem.Spec PyProof.Rows L2 DD
/-- a def of the text: its name, its slots' names, its parameters, the statement, the term -/
structure Dc where
  name : Str
  N : List Str
  ps : List Str
  st : Stmt
  fn : Fn
def scopeB (N ps : List Str) (sc : Scope) : Bool := decide (sc.kind = .function) && decide (sc.isCoroutine = false) && decide (sc.isGenerator = false) && decide N.Nodup && decide (N.take ps.length = ps) &&
  ps.all (fun x => locB sc x) && sc.names.all fun y => decide (y.2 ≠ .free)
theorem scopeB_ok {N ps : List Str} {sc : Scope} (h : scopeB N ps sc = true) : FnScope N ps sc := by
  unfold scopeB at h
  simp only [Bool.and_eq_true, decide_eq_true_eq, List.all_eq_true] at h
  obtain ⟨⟨⟨⟨⟨⟨h1, h2⟩, h3⟩, h4⟩, h5⟩, h6⟩, h7⟩ := h
  exact ⟨h1, h2, h3, h4, h5, fun x hx => locB_ok (h6 x hx), h7⟩
def defB (tx : Tx) (d : Dc) : Bool := ckSs tx d.N (defScope d.st) d.fn.body (defBody d.st) && scopeB d.N d.ps (defScope d.st) && decide (d.ps.length = d.fn.np) && decide (d.N.length = d.fn.ns) && decide (d.fn.np ≤ d.fn.ns)
/-- how the arguments bind -/
def Bd (d : Dc) : Prop := ∀ (kV doc pm : Value) (an : Option Addr) (cdv ct : Value) (us : List Value), us.length = d.ps.length → bindArgs (PySem.W.fnOf d.name d.name (defArgs d.st) (defBody d.st) (defScope d.st) .none kV doc pm an cdv ct) ⟨us, []⟩ = pure (d.ps.zip us)
def Bds : List Dc → Prop
  | [] => True
  | d :: ds => Bd d ∧ Bds ds
theorem Bds.get : ∀ {ds : List Dc} {i : Nat} {d : Dc}, Bds ds → ds[i]? = some d → Bd d
  | [], _, _, _, e => by simp at e
  | d :: ds, 0, _, h, e => by simp at e; subst e; exact h.1
  | d :: ds, i + 1, _, h, e => Bds.get (i := i) h.2 (by simpa using e)
/-- what K says of the words: the def's term, its names, the class c -/
structure KinF (K : PySem.W.Frag) (mg : Str → Option Value) (D D0 : Addr) (d : Dc) (word : Str) : Prop where
  ex : ∃ (e so wo x : Str) (c1 c2 c3 c4 c5 w1 w2 : List Str) (j : Nat), d.fn.body = [.kin [c1, c2, c3, c4, c5] [w1, w2]] ∧ d.N = [e, so, wo] ∧ d.ps = [e] ∧ ((((c1 ++ c2) ++ c3) ++ c4) ++ c5).length ≤ 100 ∧ w1.length + w2.length ≤ 100 ∧
    (((((c1 ++ c2) ++ c3) ++ c4) ++ c5).map fun c => decide (c = x)).count true = 1 ∧ (((((c1 ++ c2) ++ c3) ++ c4) ++ c5).map fun c => decide (c = x))[j]? = some true ∧ (∀ m, m < j → (((((c1 ++ c2) ++ c3) ++ c4) ++ c5).map fun c => decide (c = x))[m]? ≠ some true) ∧ (w1 ++ w2)[j]? = some word ∧
    ∀ c ∈ ((((c1 ++ c2) ++ c3) ++ c4) ++ c5), ∃ C, mg c = some (.ref C) ∧ PySem.W.kitOne K (.ref D) (.ref C) = some (decide (c = x))
  C : ExcC K D
  ve : PySem.W.kitOne K (.ref D) (.type "ValueError") = some true
  ex0 : PySem.W.exmOne K (.ref D) (.ref D0) = some true
/-- what the top has left -/
structure Prg (K : PySem.W.Frag) (mg : Str → Option Value) (ca : Nat → Addr) (tx : Tx) (ds : List Dc) : Prop where
  fn : ∀ (i : Nat) (d : Dc), ds[i]? = some d → ∃ fa fd, Fun K d.name d.name d.st fa fd ∧ mg d.name = some (.ref fa)
  bd : Bds ds
  names : tx.fns = ds.map (·.name)
  ck : ∀ d ∈ ds, defB tx d = true
  free : ∀ s ∈ bltNames, mg (Str.ofString s) = none
  glos : ∀ p ∈ tx.glos, ∃ v u, mg p.1 = some u ∧ RelV v u ∧ ∀ g H, RV K g H p.2 v
  exc : ∀ (c : Nat) (x : Str), tx.cls[c]? = some x → PySem.W.excIn K (ca c) He.veBase "ValueError.__new__" = true ∧ mg x = some (.ref (ca c)) ∧ PySem.W.keepIn K (.ref (ca c)) = true ∧ PySem.W.subIn K (.ref (ca c)) (.type "BaseException") = some true ∧ PySem.W.typeIn K (.ref (ca c)) = some (.type "type")
  kin : ∀ (f : Nat) (ws : List Str) (c : Nat) (word : Str), tx.kin = some (f, ws) → wordOf ws c = some word → ∃ d, ds[f]? = some d ∧ KinF K mg (ca c) (ca 0) d word
theorem start_env {K : PySem.W.Frag} {g : Gh} {H : Hp} {N : List Str} {fn : Fn} {ds : List D} {vs : List V} (r : RVs K g H ds vs) (hn : N.length = fn.ns) (hl : ds.length ≤ fn.ns) : EnvR K g H H (startE fn ds) (start N vs) (fun _ => []) where
  len := by
    unfold startE L2.start
    have := r.length
    simp; omega
  sl := fun i w e => by
    unfold startE at e
    have hlen := r.length
    rcases Nat.lt_or_ge i ds.length with hi | hi
    · rw [List.getElem?_append_left (by simpa using hi), List.getElem?_map, List.getElem?_eq_getElem hi] at e
      cases e
      obtain ⟨v, e1, e2⟩ := r.get (List.getElem?_eq_getElem hi)
      refine .inr ⟨v, ?_, e2, rfl⟩
      unfold L2.start
      rw [List.getElem?_append_left (by simpa [← hlen] using hi), List.getElem?_map, e1]; rfl
    · rw [List.getElem?_append_right (by simpa using hi)] at e
      have := List.mem_of_getElem? e
      rw [List.mem_replicate] at this
      exact .inl ⟨this.2, rfl⟩
  nd := fun _ => List.nodup_nil
  dj := fun _ _ _ h => by cases h
  own := fun _ _ h => by cases h
  out := fun _ _ => rfl
/-- the def of the words, asked of an exception of the class D -/
theorem kin_fnE {P : Program} {w : World} {K : PySem.W.Frag} {mg : Str → Option Value} {base : Heap} {tx : Tx} {d : Dc} {D D0 fa : Addr} {fd : FuncData} {word : Str} (G : KinF K mg D D0 d word) (fI : mg "isinstance" = none) (fV : mg "ValueError" = none) (hck : defB tx d = true) (F : Fun K d.name d.name d.st fa fd) :
    FnE P w K mg base (L2N.CX P w) fa fd d.ps D word := by
  unfold defB at hck
  simp only [Bool.and_eq_true, decide_eq_true_eq] at hck
  obtain ⟨⟨⟨⟨hb, hs⟩, hp⟩, hn⟩, hpn⟩ := hck
  have hsc := scopeB_ok hs
  obtain ⟨oc, od, kV, doc, pm, an, cdv, ct, osl, rfl, lk, hcd⟩ := F.ex
  obtain ⟨e, so, wo, x, c1, c2, c3, c4, c5, w1, w2, j, eb, eN, ep, q1, q2, q3, q4, q5, q6, q7⟩ := G.ex
  rw [ep] at hsc ⊢
  rw [eN] at hsc hb
  rw [eb] at hb
  unfold ckSs at hb
  simp only [Bool.and_eq_true] at hb
  have hk : ckKind (defScope d.st) e so wo c1 c2 c3 c4 c5 w1 w2 (defBody d.st) = true := hb.2
  refine fn_ofE lk hcd hsc (fun A outer s H Q E p hot hz hq => ?_)
  obtain ⟨_, vs, hvs, _⟩ := hot
  let bt : Str → Bool := fun c => decide (c = x)
  let cl : Str → Option Bool := fun c => if c ∈ ((((c1 ++ c2) ++ c3) ++ c4) ++ c5) then some (bt c) else none
  have hcl : ∀ cs : List Str, (∀ c ∈ cs, c ∈ ((((c1 ++ c2) ++ c3) ++ c4) ++ c5)) → cs.map cl = (cs.map bt).map some := by
    intro cs h
    induction cs with
    | nil => rfl
    | cons c cs ih =>
      simp only [List.map_cons]
      rw [ih fun y hy => h y (List.mem_cons_of_mem _ hy)]
      congr 1
      exact if_pos (h c List.mem_cons_self)
  have o : KX (L2H.cxH (L2N.CX P w) P w K mg base [e, so, wo] d.name (defScope d.st) fa cdv A outer s H E p) (defScope d.st) e so wo p.1 p.2 D cl := {
    mem := List.mem_singleton.mpr rfl
    C := G.C
    hz := hz
    hf := ⟨vs, hvs⟩
    N_ := rfl
    nd := hsc.nd
    sc_ := rfl
    fn := fun _ => rfl
    fI := fI
    fV := fV
    cls := fun c b hb => by
      by_cases hm : c ∈ ((((c1 ++ c2) ++ c3) ++ c4) ++ c5)
      · obtain ⟨C, m1, m2⟩ := q7 c hm
        have : cl c = some (bt c) := if_pos hm
        rw [this] at hb
        cases hb
        exact ⟨C, m1, m2⟩
      · have : cl c = none := if_neg hm
        rw [this] at hb
        cases hb
    ve := G.ve }
  have hm : ((((c1.map bt ++ c2.map bt) ++ c3.map bt) ++ c4.map bt) ++ c5.map bt) = ((((c1 ++ c2) ++ c3) ++ c4) ++ c5).map bt := by simp only [List.map_append]
  obtain ⟨t, ht, hq2⟩ := k_body o hk (b1 := c1.map bt) (b2 := c2.map bt) (b3 := c3.map bt) (b4 := c4.map bt) (b5 := c5.map bt) (word := word) (j := j) (hcl c1 (by simp +contextual)) (hcl c2 (by simp +contextual)) (hcl c3 (by simp +contextual)) (hcl c4 (by simp +contextual)) (hcl c5 (by simp +contextual))
    (by simp only [List.length_append, List.length_map] at q1 ⊢; exact q1) q2 (by rw [hm]; exact q3) (by rw [hm]; exact q4) (by rw [hm]; exact q5) q6
  exact ⟨t, ht, hq2 _ _ _ rfl rfl fun H' x => hq H' x⟩
theorem prg_ok {P : Program} {w : World} {K : PySem.W.Frag} {mg : Str → Option Value} {base : Heap} {ca : Nat → Addr} {tx : Tx} {ds : List Dc} (G : Prg K mg ca tx ds) : ∀ (n i : Nat) (d : Dc) (fa : Addr) (fd : FuncData), ds[i]? = some d → Fun K d.name d.name d.st fa fd →
    FnOk P w K mg base (L2N.CX P w) n fa fd d.ps (spOf K ca (callN (ds.map (·.fn)) n) i)
  | 0, i, d, fa, fd, e, F => ⟨fun _ _ _ _ ⟨_, _, _, _, _, h⟩ => h.elim, fun _ _ _ _ _ _ _ _ _ _ _ _ _ ⟨_, _, _, _, _, h⟩ => h.elim⟩
  | n + 1, i, d, fa, fd, e, F => by
    have hck := G.ck d (List.mem_of_getElem? e)
    unfold defB at hck
    simp only [Bool.and_eq_true, decide_eq_true_eq] at hck
    obtain ⟨⟨⟨⟨hb, hs⟩, hp⟩, hn⟩, hpn⟩ := hck
    have hsc := scopeB_ok hs
    obtain ⟨oc, od, kV, doc, pm, an, cdv, ct, osl, rfl, lk, hcd⟩ := F.ex
    have hcall : ∀ (xs : List D) (st : Store), callN (ds.map (·.fn)) (n + 1) i xs st = runF (callN (ds.map (·.fn)) n) d.fn xs st := fun xs st => by
      simp only [callN, List.getElem?_map, e, Option.map_some]
    refine fn_of lk hcd hsc (fun vs H Q E h => ?_) (fun A outer s H vs Q E hr h => ?_)
    · obtain ⟨g, st, xs, w1, r, h⟩ := h
      rw [hcall] at h
      unfold runF at h
      by_cases hl : xs.length = d.fn.np
      · rw [← r.length, hl, hp]
      · rw [if_neg hl] at h; exact h.elim
    · obtain ⟨g, st, xs, w1, r, h⟩ := h
      rw [hcall] at h
      unfold runF at h
      by_cases hl : xs.length = d.fn.np
      case neg => rw [if_neg hl] at h; exact h.elim
      rw [if_pos hl] at h
      refine ⟨tSs ⟨K, callN (ds.map (·.fn)) n, ca, fun cls d _ H => E cls d H, g, H⟩ d.fn.body, ?_, ?_⟩
      · refine sSs (tx := tx) (N := d.N) (k := n) (sc := defScope d.st) ⟨⟨rfl, rfl, rfl, hsc.nd, rfl, hr, L2N.takes_of rfl rfl rfl rfl, G.free, fun f x ef => ?_, G.glos, fun c x ec => ?_, fun f ws x c word e1 e2 e3 => ?_⟩, fun _ => rfl, passes_of rfl, rfl, rfl⟩ hb
        · rw [G.names, List.getElem?_map] at ef
          cases e2 : ds[f]? with
          | none => rw [e2] at ef; cases ef
          | some d2 =>
            rw [e2] at ef
            cases ef
            obtain ⟨fa2, fd2, F2, hm2⟩ := G.fn f d2 e2
            exact ⟨fa2, fd2, d2.ps, prg_ok G n f d2 fa2 fd2 e2 F2, hm2, F2.kp, F2.binds (G.bd.get e2)⟩
        · obtain ⟨h1, h2, h3, h4, h5⟩ := G.exc c x ec
          exact ⟨h1, h2, h3, h4, h5⟩
        · obtain ⟨d2, ed, KF⟩ := G.kin f ws c word e1 e3
          rw [G.names, List.getElem?_map, ed] at e2
          cases e2
          obtain ⟨fa2, fd2, F2, hm2⟩ := G.fn f d2 ed
          have kE := kin_fnE (P := P) (w := w) (base := base) KF (G.free "isinstance" (by decide)) (G.free "ValueError" (by decide)) (G.ck d2 (List.mem_of_getElem? ed)) F2
          have hb2 := F2.binds (G.bd.get ed)
          obtain ⟨e, so, wo, x, c1, c2, c3, c4, c5, w1, w2, j, eb, eN, ep, _⟩ := KF.ex
          rw [ep] at kE hb2
          exact ⟨⟨fa2, fd2, e, kE, hm2, F2.kp, hb2⟩, KF.ex0⟩
      · refine ⟨g, st, startE d.fn xs, ⟨Step.refl _ _, w1, _, start_env r hn (by omega)⟩, ?_⟩
        dsimp only
        cases e2 : evSs (callN (ds.map (·.fn)) n) d.fn.body (startE d.fn xs) st with
        | bad => rw [e2] at h; exact h
        | exc c st' => rw [e2] at h; exact fun g' H' _ s' w' => h g' H' s' w'
        | ok fl st' =>
          rw [e2] at h
          cases fl with
          | next env' => exact fun g' H' σ' _ a => h g' H' .non a.1 a.2.1 ⟨[], ⟨rfl, rfl⟩, List.nodup_nil, by simp⟩
          | ret w2 => exact fun g' H' v s' w' r' => h g' H' v s' w' r'
/-! ### the head -/
/-- a constant of the top: an int, a text, a tuple of these -/
def dvD : D → Option He.Dv
  | .int i => some (.int i)
  | .str x => some (.str x)
  | .bool b => some (.bl b)
  | .non => some .non
  | _ => none
def dvDs : List D → Option (List He.Dv)
  | [] => some []
  | d :: ds => (dvD d).bind fun v => (dvDs ds).map fun vs => v :: vs
def tupBN (K : PySem.W.Frag) (x : Str) (vs : List He.Dv) : Bool := He.tupB K x vs && match K.lookup (He.ga K x) with
  | some o => o.dict.isNone
  | none => false
theorem tupBN_ok {K : PySem.W.Frag} {x : Str} {vs : List He.Dv} (h : tupBN K x vs = true) (H : Hp) : SqN K H (He.ga K x) (vs.map (He.Dv.v K)) := by
  unfold tupBN at h
  rw [Bool.and_eq_true] at h
  rcases He.tupB_ok h.1 (fun _ => none) with (e | ⟨_, e⟩) | ⟨o, its, n, e1, e2, e3⟩
  · cases e
  · cases e
  · have h2 := h.2
    rw [e1] at h2
    exact .inr ⟨o, its, n, e1, e2, by simpa using h2, e3⟩
def gloB (K : PySem.W.Frag) (x : Str) (d : D) : Bool := match d with
  | .int i => (He.Fa.int x i).ok K
  | .str z => (He.Fa.str x z).ok K
  | .tup ds => (He.Fa.glo x).ok K && match dvDs ds with
    | some vs => tupBN K x vs
    | none => false
  | _ => false
theorem dvDs_rv {K : PySem.W.Frag} {g : Gh} {H : Hp} : ∀ {ds : List D} {vs : List He.Dv}, dvDs ds = some vs → RVs K g H ds (vs.map (He.Dv.v K))
  | [], vs, h => by cases h; rfl
  | d :: ds, vs, h => by
    simp only [dvDs] at h
    cases e1 : dvD d with
    | none => rw [e1] at h; cases h
    | some v =>
      rw [e1] at h
      cases e2 : dvDs ds with
      | none => simp only [e2] at h; cases h
      | some vs' =>
        simp only [e2] at h
        cases h
        refine ⟨_, _, rfl, ?_, dvDs_rv e2⟩
        cases d <;> cases e1 <;> rfl
theorem gloB_ok {K : PySem.W.Frag} {h : Heap} {mg : Str → Option Value} (X : K.In h) (G : h.Ns mainGlobals mg) {x : Str} {d : D} (c : gloB K x d = true) : ∃ v u, mg x = some u ∧ RelV v u ∧ ∀ g H, RV K g H d v := by
  cases d <;> try cases c
  · rename_i i
    obtain ⟨t, e⟩ := He.int_ok X G c
    exact ⟨.int i, _, e, ⟨t, rfl⟩, fun _ _ => rfl⟩
  · rename_i z
    obtain ⟨t, e⟩ := He.str_ok X G c
    exact ⟨.str z, _, e, ⟨t, rfl⟩, fun _ _ => rfl⟩
  · rename_i ds
    unfold gloB at c
    rw [Bool.and_eq_true] at c
    cases e : dvDs ds with
    | none => rw [e] at c; cases c.2
    | some vs =>
      rw [e] at c
      exact ⟨.ref (He.ga K x), _, He.glo_ok X G c.1, rfl, fun g H => ⟨_, _, rfl, tupBN_ok c.2 H, dvDs_rv e⟩⟩
def fnD (d : Dc) : He.FnD := ⟨(d.name, none), d.name, d.name, defArgs d.st, defBody d.st, defScope d.st⟩
def excCB (K : PySem.W.Frag) (D : Addr) : Bool :=
  He.eqO (PySem.W.findIn K (.ref D) "__getattribute__") (some (some (.builtin "BaseException.__getattribute__"))) && He.eqO (PySem.W.findIn K (.ref D) "__getattr__") (some none) && decide (PySem.W.subIn K (.ref D) (.type "BaseException") = some true) && PySem.W.hasDictIn K D &&
  He.eqO (PySem.W.findIn K (.ref D) "__class__") (some (some (.builtin "object.__class__"))) && He.eqO (PySem.W.specialIn K (.builtin "object.__class__") "__get__") (some (some (.builtin "getset_descriptor.__get__"))) && decide (PySem.W.takesIn K (.builtin "object.__class__") = some true) && decide (PySem.W.mroIn K D (.type "object") = some true)
theorem excCB_ok {K : PySem.W.Frag} {D : Addr} (h : excCB K D = true) : ExcC K D := by
  unfold excCB at h
  simp only [Bool.and_eq_true, decide_eq_true_eq] at h
  obtain ⟨⟨⟨⟨⟨⟨⟨h1, h2⟩, h3⟩, h4⟩, h5⟩, h6⟩, h7⟩, h8⟩ := h
  exact ⟨He.eqO_ok h1, He.eqO_ok h2, h3, h4, He.eqO_ok h5, He.eqO_ok h6, h7, h8⟩
/-- of a class that may be raised -/
def kin1B (K : PySem.W.Frag) (x0 : Str) (cs : List Str) (x : Str) : Bool :=
  excCB K (He.ga K x) && decide (PySem.W.kitOne K (.ref (He.ga K x)) (.type "ValueError") = some true) && decide (PySem.W.exmOne K (.ref (He.ga K x)) (.ref (He.ga K x0)) = some true) && cs.all fun c => decide (PySem.W.kitOne K (.ref (He.ga K x)) (.ref (He.ga K c)) = some (decide (c = x)))
/-- the words, as far as the term tells -/
def kinP (cls ws cs wo : List Str) : Bool := decide (cs.length ≤ 100) && decide (wo.length ≤ 100) && (List.range ws.length).all fun c => match cls[c + 1]?, ws[c]? with
  | some x, some word => (cs.map fun c => decide (c = x)).count true == 1 && (match (cs.map fun c => decide (c = x)).findIdx? id with
    | some j => decide (wo[j]? = some word)
    | none => false)
  | _, _ => false
def kinOf (d : Dc) : Option (List Str × List Str) := match d.fn.body, d.N, d.ps with
  | [.kin [c1, c2, c3, c4, c5] [w1, w2]], [e, _, _], [e'] => if e = e' then some (((((c1 ++ c2) ++ c3) ++ c4) ++ c5), w1 ++ w2) else none
  | _, _, _ => none
def kinAllB (tx : Tx) (ds : List Dc) (K : PySem.W.Frag) : Bool := match tx.kin with
  | none => true
  | some (f, ws) => match ds[f]? with
    | none => false
    | some d => match kinOf d with
      | none => false
      | some (cs, wo) => kinP tx.cls ws cs wo && (cs.all fun c => (He.Fa.glo c).ok K) && (List.range ws.length).all fun c => kin1B K ((tx.cls[0]?).getD ⟨#[]⟩) cs ((tx.cls[c + 1]?).getD ⟨#[]⟩)
theorem kinAllB_ok {K : PySem.W.Frag} {h : Heap} {mg : Str → Option Value} {tx : Tx} {ds : List Dc} (X : K.In h) (G : h.Ns mainGlobals mg) (hk : kinAllB tx ds K = true) {f : Nat} {ws : List Str} {c : Nat} {word : Str} (e1 : tx.kin = some (f, ws)) (e2 : wordOf ws c = some word) :
    ∃ d, ds[f]? = some d ∧ KinF K mg (He.ga K ((tx.cls[c]?).getD ⟨#[]⟩)) (He.ga K ((tx.cls[0]?).getD ⟨#[]⟩)) d word := by
  unfold kinAllB at hk
  rw [e1] at hk
  simp only at hk
  cases ed : ds[f]? with
  | none => rw [ed] at hk; cases hk
  | some d =>
    rw [ed] at hk
    simp only at hk
    refine ⟨d, rfl, ?_⟩
    cases ek : kinOf d with
    | none => rw [ek] at hk; cases hk
    | some z =>
      obtain ⟨cs, wo⟩ := z
      rw [ek] at hk
      simp only [Bool.and_eq_true] at hk
      obtain ⟨⟨hp, hg⟩, h1⟩ := hk
      cases c with
      | zero => cases e2
      | succ c =>
        have e2 : ws[c]? = some word := e2
        have hc : c < ws.length := (List.getElem?_eq_some_iff.mp e2).1
        unfold kinP at hp
        simp only [Bool.and_eq_true, decide_eq_true_eq, List.all_eq_true, List.mem_range] at hp
        obtain ⟨⟨p1, p2⟩, p0⟩ := hp
        have p3 := p0 c hc
        rw [e2] at p3
        cases ec : tx.cls[c + 1]? with
        | none => rw [ec] at p3; cases p3
        | some x =>
          rw [ec] at p3
          simp only [Bool.and_eq_true, beq_iff_eq] at p3
          obtain ⟨p3, p4⟩ := p3
          cases ej : (cs.map fun c => decide (c = x)).findIdx? id with
          | none => rw [ej] at p4; cases p4
          | some j =>
            rw [ej] at p4
            simp only [decide_eq_true_eq] at p4
            have h2 := List.all_eq_true.mp h1 c (List.mem_range.mpr hc)
            rw [ec, Option.getD_some] at h2
            rw [Option.getD_some]
            unfold kin1B at h2
            simp only [Bool.and_eq_true, decide_eq_true_eq, List.all_eq_true] at h2
            obtain ⟨⟨⟨k1, k2⟩, k3⟩, k4⟩ := h2
            refine ⟨?_, excCB_ok k1, k2, k3⟩
            obtain ⟨hj1, hj2⟩ := List.findIdx?_eq_some_iff_getElem.mp ej
            unfold kinOf at ek
            split at ek <;> try cases ek
            rename_i c1 c2 c3 c4 c5 w1 w2 e so wo e' eb eN ep
            split at ek
            case isFalse => cases ek
            rename_i ee
            subst ee
            cases ek
            refine ⟨e, so, wo, x, c1, c2, c3, c4, c5, w1, w2, j, eb, eN, ep, p1, by rw [← List.length_append]; exact p2, p3, ?_, ?_, p4, fun c hc => ⟨_, He.glo_ok X G (List.all_eq_true.mp hg c hc), k4 c hc⟩⟩
            · rw [List.getElem?_eq_getElem hj1]; exact congrArg some hj2.1
            · intro m hm z
              obtain ⟨hz1, hz2⟩ := List.getElem?_eq_some_iff.mp z
              exact hj2.2 m hm hz2
def factsB (tx : Tx) (ds : List Dc) (K : PySem.W.Frag) : Bool :=
  (ds.all fun d => (He.Fa.glo d.name).ok K && (He.Fa.keep d.name).ok K && (He.Fa.code (d.name, none) d.name).ok K) && (bltNames.all fun s => (He.Fa.free (Str.ofString s)).ok K) && (tx.glos.all fun p => gloB K p.1 p.2) && (tx.cls.all fun x => (He.Fa.glo x).ok K && (He.Fa.exc x).ok K) && kinAllB tx ds K
abbrev AlX : Type := Bool × List He.FnV
def obsX (tx : Tx) (ds : List Dc) (K : PySem.W.Frag) : AlX := (factsB tx ds K, ds.map fun d => He.fnObs K (d.name, none))
def valX (ds : List Dc) : AlX := (true, ds.map fun d => (fnD d).val)
def SaysX (tx : Tx) (ds : List Dc) (K : PySem.W.Frag) : Prop := obsX tx ds K = valX ds
def obsXG (n : Nat) (tx : Tx) (ds : List Dc) (g : Addr → Option Obj) : AlX := obsX tx ds (He.frG g (He.asG g n))
def hookX (n : Nat) (tx : Tx) (ds : List Dc) : PySem.W.Hook where
  α := AlX
  obs := fun s => obsXG n tx ds s.heap.get?
  val := fun _ => valX ds
  says := fun _ h => ∃ K : PySem.W.Frag, K.In h ∧ SaysX tx ds K
  of := fun _ _ e => ⟨_, He.frG_in, e⟩
  keeps := fun _ _ _ ⟨K, hK, c⟩ k => ⟨K, PySem.W.Frag.In.keeps hK k, c⟩
theorem obsXG_eq {n : Nat} {tx : Tx} {ds : List Dc} {g : Addr → Option Obj} {s : Shared} (h : ∀ a, g a = s.heap.get? a) : obsXG n tx ds g = (hookX n tx ds).obs s := by
  have e : g = s.heap.get? := funext h
  rw [e] <;> rfl
theorem prg_of {K : PySem.W.Frag} {h : Heap} {mg : Str → Option Value} {tx : Tx} {ds : List Dc} (X : K.In h) (G : h.Ns mainGlobals mg) (c : SaysX tx ds K) (names : tx.fns = ds.map (·.name)) (ck : (ds.all fun d => defB tx d) = true) (bd : Bds ds) :
    Prg K mg (fun n => He.ga K ((tx.cls[n]?).getD ⟨#[]⟩)) tx ds where
  fn := fun i d e => by
    have c1 : factsB tx ds K = true := congrArg (fun z : AlX => z.1) c
    unfold factsB at c1
    simp only [Bool.and_eq_true, List.all_eq_true] at c1
    obtain ⟨⟨q1, q2⟩, q3⟩ := c1.1.1.1.1 d (List.mem_of_getElem? e)
    have e1 : ds.map (fun d => He.fnObs K (d.name, none)) = ds.map (fun d => (fnD d).val) := congrArg (fun z : AlX => z.2) c
    have e2 : (ds.map fun d => He.fnObs K (d.name, none))[i]? = (ds.map fun d => (fnD d).val)[i]? := by rw [e1]
    rw [List.getElem?_map, List.getElem?_map, e] at e2
    obtain ⟨oc, od, osl, kV, doc, pm, an, cdv, ct, lk, hcd⟩ := He.fn_ok (d := fnD d) (Option.some.inj e2) q3
    exact ⟨_, _, fun_mk lk hcd q2, He.glo_ok X G q1⟩
  bd := bd
  names := names
  ck := fun d hd => List.all_eq_true.mp ck d hd
  free := fun s hs => by
    have c1 : factsB tx ds K = true := congrArg (fun z : AlX => z.1) c
    unfold factsB at c1
    simp only [Bool.and_eq_true, List.all_eq_true] at c1
    exact He.free_ok X G (c1.1.1.1.2 s hs)
  glos := fun p hp => by
    have c1 : factsB tx ds K = true := congrArg (fun z : AlX => z.1) c
    unfold factsB at c1
    simp only [Bool.and_eq_true, List.all_eq_true] at c1
    exact gloB_ok X G (c1.1.1.2 p hp)
  exc := fun n x e => by
    have c1 : factsB tx ds K = true := congrArg (fun z : AlX => z.1) c
    unfold factsB at c1
    simp only [Bool.and_eq_true, List.all_eq_true] at c1
    obtain ⟨q1, q2⟩ := c1.1.2 x (List.mem_of_getElem? e)
    obtain ⟨h1, h2, h3, h4⟩ := He.exc_ok q2
    rw [e, Option.getD_some]
    exact ⟨h1, He.glo_ok X G q1, h2, h3, h4⟩
  kin := fun f ws n word e1 e2 => by
    have c1 : factsB tx ds K = true := congrArg (fun z : AlX => z.1) c
    unfold factsB at c1
    simp only [Bool.and_eq_true, List.all_eq_true] at c1
    exact kinAllB_ok X G c1.2 e1 e2
/-- the script as a value -/
theorem script_rv {K : PySem.W.Frag} {H : Hp} {a : Addr} {ns : List Int} (o : Only H) (h : SqL K H a (ns.map V.int)) : ∃ g, Wf K g H [] ∧ RVs K g H [.scr (ns.map .int)] [.ref a] := by
  have intsRV : ∀ (g : Gh) (ns : List Int), RVs K g H (ns.map .int) (ns.map V.int) := by
    intro g ns
    induction ns with
    | nil => rfl
    | cons n ns ih => exact ⟨_, _, rfl, rfl, ih⟩
  rcases h with (h | ⟨ob, h⟩) | h
  · rcases o a with e | ⟨ob, xs, e⟩
    · rw [h] at e; cases e
    · rw [h] at e; cases e
  · refine ⟨⟨fun b => b = a, []⟩, ⟨rfl, List.nodup_nil, fun k c b e1 _ => (by simp at e1), fun b hb => (by cases hb), fun b hb => ⟨_, (show H b = _ from (congrArg H (show b = a from hb)).trans h)⟩⟩, _, [], rfl, ⟨a, _, rfl, .inl ⟨rfl, ob, h⟩, intsRV _ _⟩, rfl⟩
  · exact ⟨⟨fun _ => False, []⟩, ⟨rfl, List.nodup_nil, fun k c b e1 _ => (by simp at e1), fun b hb => (by cases hb), fun b hb => hb.elim⟩, _, [], rfl, ⟨a, _, rfl, .inr h, intsRV _ _⟩, rfl⟩
/-- the end of a law -/
theorem law_end {l : PySem.W.OpenLaw} {tx : Tx} {ds : List Dc} {n : Nat} {x : Str} {d : Dc} {i : Nat} {q : Program} {loose : List Str} {XP : (Str → Option Value) → Heap → Prop} {dr : DefRec}
    (hm : l.most = some 63) (hdf : dr.params.defaults = []) (hnm : dr.name = d.name) (names : tx.fns = ds.map (·.name)) (ck : (ds.all fun d => defB tx d) = true) (bd : Bds ds) (hd : ds[i]? = some d) (hps : d.ps = [x]) (hn : n ≤ 100)
    (ht : ∀ ns : List Int, ns.length ≤ 63 → ∃ st, callN (ds.map (·.fn)) n i [.scr (ns.map .int)] [] = .ok (.fz (.bool true)) st) :
    PySem.W.WalkO q loose XP (hookX 4 tx ds).says l.row.toRowW dr [] (fun f vs => PySem.call f vs) := by
  refine Att.attach_call hm hdf fun w s₀ s₁ mg mb fa o pm cd doc a vs ns G Y ho hd' hcd hmg hobj hints hlen hg => ?_
  obtain ⟨K, KX, c⟩ := Y
  have GP := prg_of KX G.T.g c names ck bd
  obtain ⟨fa', fd, F, hm'⟩ := GP.fn i d hd
  rw [hnm, hm'] at hmg
  have efa : fa' = fa := by cases hmg; rfl
  subst efa
  have hF : ∀ base : Heap, K.In base → base.Ns mainGlobals mg → FnOk l.prog w K mg base (L2N.CX l.prog w) n fa' fd d.ps (spOf K (fun n => He.ga K ((tx.cls[n]?).getD ⟨#[]⟩)) (callN (ds.map (·.fn)) n) i) := fun base _ _ => prg_ok GP n i d fa' fd hd F
  have hB : ∀ (s : Shared) (u : Value), BindsTo s fd ⟨[u], []⟩ [(x, u)] := fun s u => by
    obtain ⟨oc, od, kV, doc, pm, an, cdv, ct, osl, rfl, lk, hcd⟩ := F.ex
    have z := (bd.get hd) kV doc pm an cdv ct [u] (by rw [hps]; rfl)
    rw [hps] at z
    exact .of_eq z
  rw [hps] at hF
  refine law_call KX G.T.g G.T.b G.T.builtins G.T.nolimit hg hobj hints (Nat.le_trans hlen (by decide)) (Room.mono (k := 100) ⟨rfl, by decide, by decide⟩ hn) hF hB (fun H hO hS => ?_) fun H e s' ⟨_, _, _, _, _, _, _, _, _, _, _, _, h⟩ => h
  obtain ⟨g, w1, r⟩ := script_rv hO hS
  obtain ⟨st, e⟩ := ht ns hlen
  refine ⟨g, [], _, w1, r, ?_⟩
  rw [e]
  rintro g' H' v _ _ ⟨os, r, _⟩
  exact r.1
end DDS

set_option Elab.async false
set_option linter.all false
set_option maxRecDepth 100000
set_option maxHeartbeats 1000000
/-! plain lemmas about the evaluator: no program in sight -/
namespace DD
open PySem (Str)
/-- it comes to an end, so -/
def Ok {α : Type} (r : R α) (Q : α → Store → Prop) : Prop := ∃ a st, r = .ok a st ∧ Q a st
theorem Ok.mono {α : Type} {r : R α} {Q Q' : α → Store → Prop} (h : Ok r Q) (k : ∀ a st, Q a st → Q' a st) : Ok r Q' := by
  obtain ⟨a, st, e, q⟩ := h
  exact ⟨a, st, e, k a st q⟩
theorem ok_ok {α : Type} {a : α} {st : Store} {Q : α → Store → Prop} (h : Q a st) : Ok (.ok a st) Q := ⟨a, st, rfl, h⟩
theorem ok_bind {α β : Type} {r : R α} {f : α → Store → R β} {Q : β → Store → Prop} (h : Ok r fun a st => Ok (f a st) Q) : Ok (r.bind f) Q := by
  obtain ⟨a, st, rfl, q⟩ := h
  exact q
theorem call_of {fns : List Fn} {n i : Nat} {fn : Fn} (h : fns[i]? = some fn) (ds : List D) (st : Store) : callN fns (n + 1) i ds st = runF (callN fns n) fn ds st := by
  simp only [callN, h]
@[simp] theorem intsOf_map (xs : List Int) : intsOf (xs.map D.int) = some xs := by
  induction xs with
  | nil => rfl
  | cons x xs ih => simp [intsOf, ih]
@[simp] theorem boolsOf_map (xs : List Bool) : boolsOf (xs.map D.bool) = some xs := by
  induction xs with
  | nil => rfl
  | cons x xs ih => simp [boolsOf, ih]
theorem mulOk_of {i j : Int} (a b : Nat) (hi : i.natAbs < 2 ^ a) (hj : j.natAbs < 2 ^ b) (h : a + b < 100000000 := by decide) : mulOk i j = true := by
  unfold mulOk
  have h1 : i.natAbs.log2 ≤ a := by
    rcases Nat.eq_zero_or_pos i.natAbs with e | e
    · rw [e]; exact Nat.zero_le _
    · exact Nat.le_of_lt ((Nat.log2_lt (by omega)).mpr hi)
  have h2 : j.natAbs.log2 ≤ b := by
    rcases Nat.eq_zero_or_pos j.natAbs with e | e
    · rw [e]; exact Nat.zero_le _
    · exact Nat.le_of_lt ((Nat.log2_lt (by omega)).mpr hj)
  rw [decide_eq_true_eq]; omega
theorem divOk_of {j : Int} (b : Nat) (h0 : j ≠ 0) (hj : j.natAbs < 2 ^ b) (h : b ≤ 9000 := by decide) : divOk j = true := by
  unfold divOk
  have h2 : j.natAbs.log2 < b := (Nat.log2_lt (by omega)).mpr hj
  simp [h0]; omega
/-- a comprehension that leaves the store -/
theorem compGo_map {t : T} {c : Ev → Store → R Bool} {f : Ev → Store → R D} {g : D → D} {env : Ev} {st : Store} : ∀ (xs : List D), (∀ x ∈ xs, ∃ env', bindT t x env = some env' ∧ c env' st = .ok true st ∧ f env' st = .ok (g x) st) → compGo t c f xs env st = .ok (xs.map g) st
  | [], _ => rfl
  | x :: xs, h => by
    obtain ⟨env', h1, h2, h3⟩ := h x (List.mem_cons_self ..)
    unfold compGo
    rw [h1]
    simp only [h2, h3, R.calm_ok, R.bind_ok, if_true, compGo_map xs fun y hy => h y (List.mem_cons_of_mem _ hy), List.map_cons]
/-- a comprehension whose parts change the store -/
theorem compGo_inv {t : T} {c : Ev → Store → R Bool} {f : Ev → Store → R D} {env : Ev} {I : Store → Prop} {G : D → Prop} : ∀ (xs : List D) (st : Store), I st → (∀ x ∈ xs, ∀ st, I st → ∃ env', bindT t x env = some env' ∧ c env' st = .ok true st ∧ Ok (f env' st) fun d st' => G d ∧ I st') →
    Ok (compGo t c f xs env st) fun ds st' => ds.length = xs.length ∧ (∀ d ∈ ds, G d) ∧ I st'
  | [], st, hi, _ => ok_ok ⟨rfl, (by simp), hi⟩
  | x :: xs, st, hi, h => by
    obtain ⟨env', h1, h2, d, st', h3, h4, h5⟩ := h x (List.mem_cons_self ..) st hi
    unfold compGo
    rw [h1]
    simp only [h2, h3, R.calm_ok, R.bind_ok, if_true]
    refine ok_bind ((compGo_inv xs st' h5 fun y hy => h y (List.mem_cons_of_mem _ hy)).mono fun ds st2 ⟨q1, q2, q3⟩ => ok_ok ⟨by simp [q1], ?_, q3⟩)
    intro z hz
    rcases List.mem_cons.mp hz with rfl | hz
    · exact h4
    · exact q2 z hz
/-- a for whose body goes on -/
theorem forGo_inv {t : T} {b : Ev → Store → R Fl} {I : Ev → Store → Prop} : ∀ (xs : List D) (env : Ev) (st : Store), I env st → (∀ x ∈ xs, ∀ env st, I env st → ∃ env', bindT t x env = some env' ∧ Ok (b env' st) fun fl st' => ∃ env2, fl = .next env2 ∧ I env2 st') →
    Ok (forGo t b xs env st) fun fl st' => ∃ env2, fl = .next env2 ∧ I env2 st'
  | [], env, st, hi, _ => ok_ok ⟨env, rfl, hi⟩
  | x :: xs, env, st, hi, h => by
    obtain ⟨env', h1, fl, st', h2, env2, rfl, h3⟩ := h x (List.mem_cons_self ..) env st hi
    unfold forGo
    rw [h1]
    simp only [h2, R.bind_ok]
    exact forGo_inv xs env2 st' h3 fun y hy => h y (List.mem_cons_of_mem _ hy)
theorem items_tup (xs : List D) : D.items (.tup xs) = some xs := rfl
theorem items_lst (xs : List D) : D.items (.lst xs) = some xs := rfl

@[simp] theorem cmp_lt (i j : Int) : cmpop .lt (.int i) (.int j) = some (decide (i < j)) := rfl
@[simp] theorem cmp_le (i j : Int) : cmpop .le (.int i) (.int j) = some (decide (i ≤ j)) := rfl
@[simp] theorem cmp_gt (i j : Int) : cmpop .gt (.int i) (.int j) = some (decide (i > j)) := rfl
@[simp] theorem cmp_ge (i j : Int) : cmpop .ge (.int i) (.int j) = some (decide (i ≥ j)) := rfl
@[simp] theorem cmp_eqI (i j : Int) : cmpop .eq (.int i) (.int j) = some (i == j) := rfl
@[simp] theorem cmp_neI (i j : Int) : cmpop .ne (.int i) (.int j) = some (!(i == j)) := rfl
@[simp] theorem cmp_eqB (i j : Bool) : cmpop .eq (.bool i) (.bool j) = some (i == j) := rfl
@[simp] theorem cmp_neB (i j : Bool) : cmpop .ne (.bool i) (.bool j) = some (!(i == j)) := rfl
@[simp] theorem bin_add (i j : Int) : binop .add (.int i) (.int j) = some (.int (i + j)) := rfl
@[simp] theorem bin_sub (i j : Int) : binop .sub (.int i) (.int j) = some (.int (i - j)) := rfl
theorem bin_mul {i j : Int} (h : mulOk i j = true) : binop .mul (.int i) (.int j) = some (.int (i * j)) := by simp [binop, h]
theorem bin_fdiv {i j : Int} (h : divOk j = true) : binop .fdiv (.int i) (.int j) = some (.int (i.fdiv j)) := by simp [binop, h]
theorem bin_mod {i j : Int} (h : j ≠ 0) : binop .mod (.int i) (.int j) = some (.int (i.fmod j)) := by simp [binop, h]
theorem bin_pow {i j : Int} (h : powOk i j = true) : binop .pow (.int i) (.int j) = some (.int (i ^ j.toNat)) := by simp [binop, h]
@[simp] theorem len_tup (xs : List D) : bi1 .len (.tup xs) = some (.int xs.length) := rfl
@[simp] theorem len_lst (xs : List D) : bi1 .len (.lst xs) = some (.int xs.length) := rfl
@[simp] theorem len_scr (xs : List D) : bi1 .len (.scr xs) = some (.int xs.length) := rfl
@[simp] theorem abs_int (i : Int) : bi1 .abs (.int i) = some (.int (if i < 0 then -i else i)) := rfl
@[simp] theorem int_int (i : Int) : bi1 .int (.int i) = some (.int i) := rfl
@[simp] theorem int_bool (b : Bool) : bi1 .int (.bool b) = some (.int (if b then 1 else 0)) := rfl
@[simp] theorem tuple_lst (xs : List D) : bi1 .tuple (.lst xs) = some (.tup xs) := rfl
@[simp] theorem tuple_tup (xs : List D) : bi1 .tuple (.tup xs) = some (.tup xs) := rfl
@[simp] theorem list_lst (xs : List D) : bi1 .list (.lst xs) = some (.lst xs) := rfl
@[simp] theorem list_tup (xs : List D) : bi1 .list (.tup xs) = some (.lst xs) := rfl
@[simp] theorem max1_lst (xs : List Int) : bi1 .max1 (.lst (xs.map .int)) = (maxI xs).map .int := by simp [bi1, D.items]
@[simp] theorem max1_tup (xs : List Int) : bi1 .max1 (.tup (xs.map .int)) = (maxI xs).map .int := by simp [bi1, D.items]
@[simp] theorem min1_lst (xs : List Int) : bi1 .min1 (.lst (xs.map .int)) = (minI xs).map .int := by simp [bi1, D.items]
@[simp] theorem min1_tup (xs : List Int) : bi1 .min1 (.tup (xs.map .int)) = (minI xs).map .int := by simp [bi1, D.items]
@[simp] theorem all_lst (xs : List Bool) : bi1 .all (.lst (xs.map .bool)) = some (.bool (xs.all id)) := by simp [bi1]
@[simp] theorem sum_lst (xs : List Int) : bi1 .sum (.lst (xs.map .int)) = some (.int xs.sum) := by simp [bi1, D.items]
@[simp] theorem sum_tup (xs : List Int) : bi1 .sum (.tup (xs.map .int)) = some (.int xs.sum) := by simp [bi1, D.items]
@[simp] theorem min2_int (i j : Int) : bi2 .min2 (.int i) (.int j) = some (.int (if j < i then j else i)) := rfl
@[simp] theorem max2_int (i j : Int) : bi2 .max2 (.int i) (.int j) = some (.int (if j > i then j else i)) := rfl
@[simp] theorem isTys_int (i : Int) (ts : List Ty) : isTys (.int i) ts = some (ts.any (isTy (.int i))) := rfl
@[simp] theorem isTys_bool (i : Bool) (ts : List Ty) : isTys (.bool i) ts = some (ts.any (isTy (.bool i))) := rfl
@[simp] theorem isTys_tup (i : List D) (ts : List Ty) : isTys (.tup i) ts = some (ts.any (isTy (.tup i))) := rfl
@[simp] theorem isTys_lst (i : List D) (ts : List Ty) : isTys (.lst i) ts = some (ts.any (isTy (.lst i))) := rfl
theorem all_true {α : Type} (xs : List α) : bi1 .all (.lst (xs.map fun _ => .bool true)) = some (.bool true) := by
  have e := all_lst (xs.map fun _ => true)
  have e2 : (xs.all fun _ => true) = true := by simp
  simp only [List.map_map, Function.comp_def, List.all_map, id, e2] at e
  exact e
theorem lined_ok {ds : List D} {st : Store} (h : ds.length ≤ 1000000) : lined (.ok ds st) = .ok (.lst ds) st := by
  simp [lined, lim, h]
/-- a tuple of ints -/
def ti (xs : List Int) : D := .tup (xs.map .int)
@[simp] theorem ti_tuple (xs : List Int) : isTys (ti xs) [.tuple] = some true := rfl
@[simp] theorem ti_tyint (xs : List Int) : isTys (ti xs) [.int] = some false := rfl
@[simp] theorem ti_tybool (xs : List Int) : isTys (ti xs) [.bool] = some false := rfl
@[simp] theorem ti_tystr (xs : List Int) : isTys (ti xs) [.str] = some false := rfl
@[simp] theorem ti_tylist (xs : List Int) : isTys (ti xs) [.list] = some false := rfl
@[simp] theorem ti_len (xs : List Int) : bi1 .len (ti xs) = some (.int xs.length) := by simp [ti]
@[simp] theorem ti_max (xs : List Int) : bi1 .max1 (ti xs) = (maxI xs).map .int := by simp [ti]
@[simp] theorem ti_sum (xs : List Int) : bi1 .sum (ti xs) = some (.int xs.sum) := by simp [ti]
@[simp] theorem ti_min (xs : List Int) : bi1 .min1 (ti xs) = (minI xs).map .int := by simp [ti]
@[simp] theorem ti_tup (xs : List Int) : bi1 .tuple (.lst (xs.map .int)) = some (ti xs) := rfl
@[simp] theorem ti_items (xs : List Int) : (ti xs).items = some (xs.map .int) := rfl
@[simp] theorem ti_mk (xs : List Int) : D.tup (xs.map .int) = ti xs := rfl
/-- what an iteration takes from data -/
def itD (d : D) (st : Store) : R (List D) := match d with
    | .tup xs => .ok xs st
    | .lst xs => .ok xs st
    | .str s => if s.length ≤ lim then .ok (s.cps.toList.map fun c => .str ⟨#[c]⟩) st else .bad
    | .ldic ks _ => .ok ks st
    | _ => .bad
theorem evI_of (cl : CallT) (e : E) (env : Ev) (st : Store) : evI cl (.of e) env st = (evE cl e env st).bind fun d st => itD d st := by
  simp only [evI]; rfl
@[simp] theorem itD_ti (xs : List Int) (st : Store) : itD (ti xs) st = .ok (xs.map .int) st := rfl
@[simp] theorem itD_lst (xs : List D) (st : Store) : itD (.lst xs) st = .ok xs st := rfl
@[simp] theorem itD_tup (xs : List D) (st : Store) : itD (.tup xs) st = .ok xs st := rfl
@[simp] theorem idx_last (ys : List Int) (z : Int) : idxD (ti (ys ++ [z])) (.int (-1)) = some (.int z) := by
  have e : ((-1 : Int) + ((ys.length : Int) + 1)) = (ys.length : Int) := by omega
  simp [idxD, place, ti, -ti_mk, e]
@[simp] theorem slice_init (ys : List Int) (z : Int) : sliceD (ti (ys ++ [z])) none (some (-1)) = some (ti ys) := by
  have e : ((-1 : Int) + ((ys.length : Int) + 1)).toNat = (ys.map D.int).length := by simp; omega
  simp only [sliceD, sliceL, clampI, ti, List.map_append, List.length_append, List.length_map]
  simp [-List.length_map, -ti_mk, e]
def isN : D → Bool
  | .non => true
  | _ => false
@[simp] theorem isN_ti (xs : List Int) : isN (ti xs) = false := rfl
@[simp] theorem isN_int (x : Int) : isN (.int x) = false := rfl
@[simp] theorem isN_bool (x : Bool) : isN (.bool x) = false := rfl
@[simp] theorem isN_non : isN .non = true := rfl
@[simp] theorem isN_tup (xs : List D) : isN (.tup xs) = false := rfl
@[simp] theorem isN_lst (xs : List D) : isN (.lst xs) = false := rfl
theorem evE_isd (cl : CallT) (a : E) (pos : Bool) (env : Ev) (st : Store) : evE cl (.isd a .non pos) env st = (evE cl a env st).bind fun x st => .ok (.bool (isN x == pos)) st := by
  simp only [evE]
  congr 1
  funext x st
  cases x <;> cases pos <;> rfl
/-- a for whose body goes on, the turns counted -/
theorem forGo_cnt {t : T} {b : Ev → Store → R Fl} {I : Nat → Ev → Store → Prop} : ∀ (xs : List D) (k : Nat) (env : Ev) (st : Store), I k env st → (∀ x ∈ xs, ∀ j env st, j < k + xs.length → I j env st → ∃ env', bindT t x env = some env' ∧ Ok (b env' st) fun fl st' => ∃ env2, fl = .next env2 ∧ I (j + 1) env2 st') →
    Ok (forGo t b xs env st) fun fl st' => ∃ env2, fl = .next env2 ∧ I (k + xs.length) env2 st'
  | [], k, env, st, hi, _ => ok_ok ⟨env, rfl, hi⟩
  | x :: xs, k, env, st, hi, h => by
    obtain ⟨env', h1, fl, st', h2, env2, rfl, h3⟩ := h x (List.mem_cons_self ..) k env st (by simp) hi
    unfold forGo
    rw [h1]
    simp only [h2, R.bind_ok]
    have := forGo_cnt xs (k + 1) env2 st' h3 fun y hy j env st hj => h y (List.mem_cons_of_mem _ hy) j env st (by simp; omega)
    rw [List.length_cons, show k + (xs.length + 1) = k + 1 + xs.length by omega]
    exact this
theorem ok_bind_iff {α β : Type} {r : R α} {f : α → Store → R β} {Q : β → Store → Prop} : Ok (r.bind f) Q ↔ Ok r fun a st => Ok (f a st) Q := by
  refine ⟨fun h => ?_, ok_bind⟩
  cases r with
  | ok a st => exact ⟨a, st, rfl, h⟩
  | exc c st => obtain ⟨_, _, e, _⟩ := h; cases e
  | bad => obtain ⟨_, _, e, _⟩ := h; cases e
theorem ok_ok_iff {α : Type} {a : α} {st : Store} {Q : α → Store → Prop} : Ok (.ok a st) Q ↔ Q a st :=
  ⟨fun ⟨_, _, e, q⟩ => by cases e; exact q, ok_ok⟩
/-- after a statement -/
def aft (cl : CallT) (ss : List S) (Q : Fl → Store → Prop) (fl : Fl) (st : Store) : Prop := match fl with
  | .next env => Ok (evSs cl ss env st) Q
  | .ret w => Q (.ret w) st
@[simp] theorem aft_next (cl : CallT) (ss : List S) (Q : Fl → Store → Prop) (env : Ev) (st : Store) : aft cl ss Q (.next env) st = Ok (evSs cl ss env st) Q := rfl
@[simp] theorem aft_ret (cl : CallT) (ss : List S) (Q : Fl → Store → Prop) (w : W) (st : Store) : aft cl ss Q (.ret w) st = Q (.ret w) st := rfl
theorem ok_seq {cl : CallT} {s : S} {ss : List S} {env : Ev} {st : Store} {Q : Fl → Store → Prop} (h : Ok (evS cl s env st) (aft cl ss Q)) : Ok (evSs cl (s :: ss) env st) Q := by
  obtain ⟨fl, st', e, q⟩ := h
  simp only [evSs, e, R.bind_ok]
  cases fl with
  | next env => exact q
  | ret w => exact ⟨_, _, rfl, q⟩
theorem ok_nil {cl : CallT} {env : Ev} {st : Store} {Q : Fl → Store → Prop} (h : Q (.next env) st) : Ok (evSs cl [] env st) Q := by
  simp only [evSs]; exact ok_ok h
def outQ (Q : W → Store → Prop) (fl : Fl) (st : Store) : Prop := match fl with
  | .next _ => Q (.fz .non) st
  | .ret w => Q w st
@[simp] theorem outQ_next (Q : W → Store → Prop) (env : Ev) (st : Store) : outQ Q (.next env) st = Q (.fz .non) st := rfl
@[simp] theorem outQ_ret (Q : W → Store → Prop) (w : W) (st : Store) : outQ Q (.ret w) st = Q w st := rfl
theorem ok_call {fns : List Fn} {n i : Nat} {fn : Fn} (h : fns[i]? = some fn) {ds : List D} {st : Store} {Q : W → Store → Prop} (hl : ds.length = fn.np) (k : Ok (evSs (callN fns n) fn.body (startE fn ds) st) (outQ Q)) : Ok (callN fns (n + 1) i ds st) Q := by
  rw [call_of h]
  obtain ⟨fl, st', e, q⟩ := k
  simp only [runF, hl, if_true, e, R.bind_ok]
  cases fl with
  | next env => exact ⟨_, _, rfl, q⟩
  | ret w => exact ⟨_, _, rfl, q⟩
theorem ints_of {P : Int → Prop} : ∀ {ds : List D}, (∀ d ∈ ds, ∃ x : Int, d = .int x ∧ P x) → ∃ xs : List Int, ds = xs.map .int ∧ ∀ x ∈ xs, P x
  | [], _ => ⟨[], rfl, by simp⟩
  | d :: ds, h => by
    obtain ⟨x, rfl, hx⟩ := h d (by simp)
    obtain ⟨xs, rfl, hs⟩ := ints_of (ds := ds) fun e he => h e (by simp [he])
    exact ⟨x :: xs, rfl, by simpa using ⟨hx, hs⟩⟩
theorem place_in {n : Nat} {i : Int} (h0 : 0 ≤ i) (h1 : i < n) : place n i = some i.toNat := by
  simp [place, h0, h1]
theorem set_ints (xs : List Int) (j : Nat) (v : Int) : (xs.map D.int).set j (.int v) = (xs.set j v).map .int := by
  simp [List.map_set]
theorem set_all {P : Int → Prop} {xs : List Int} {j : Nat} {v : Int} (h : ∀ x ∈ xs, P x) (hv : P v) : ∀ x ∈ xs.set j v, P x := by
  intro x hx
  rcases List.mem_or_eq_of_mem_set hx with hx | rfl
  · exact h x hx
  · exact hv
theorem range_len {j : Int} (h0 : 0 ≤ j) (h1 : j ≤ 1000000) : ∃ ks : List D, rangeI 0 j 1 = some ks ∧ (ks.length : Int) = j ∧ ∀ d ∈ ks, ∃ k : Int, d = .int k ∧ 0 ≤ k ∧ k < j := by
  have c : (0 : Int).natAbs ≤ lim ∧ j.natAbs ≤ lim ∧ (0 : Int) < 1 ∧ (1 : Int) ≤ lim := by
    refine ⟨by decide, ?_, by decide, by decide⟩
    show j.natAbs ≤ 1000000
    omega
  refine ⟨_, if_pos c, by simp; omega, ?_⟩
  intro d hd
  obtain ⟨k, hk, rfl⟩ := List.mem_map.mp hd
  have := List.mem_range.mp hk
  exact ⟨_, rfl, by omega, by omega⟩
/-- a for, turn by turn -/
theorem forGo_idx {t : T} {b : Ev → Store → R Fl} {I : Nat → Ev → Store → Prop} : ∀ (xs : List D) (k : Nat) (env : Ev) (st : Store), I k env st → (∀ j x, xs[j]? = some x → ∀ env st, I (k + j) env st → ∃ env', bindT t x env = some env' ∧ Ok (b env' st) fun fl st' => ∃ env2, fl = .next env2 ∧ I (k + j + 1) env2 st') →
    Ok (forGo t b xs env st) fun fl st' => ∃ env2, fl = .next env2 ∧ I (k + xs.length) env2 st'
  | [], k, env, st, hi, _ => ok_ok ⟨env, rfl, hi⟩
  | x :: xs, k, env, st, hi, h => by
    obtain ⟨env', h1, fl, st', h2, env2, rfl, h3⟩ := h 0 x rfl env st hi
    unfold forGo
    rw [h1]
    simp only [h2, R.bind_ok]
    have := forGo_idx (I := I) xs (k + 1) env2 st' h3 fun j y hy env st hi => by
      have z := h (j + 1) y (by simpa using hy) env st (by rw [show k + (j + 1) = k + 1 + j by omega]; exact hi)
      rw [show k + (j + 1) + 1 = k + 1 + j + 1 by omega] at z
      exact z
    rw [List.length_cons, show k + (xs.length + 1) = k + 1 + xs.length by omega]
    exact this
/-- a comprehension with a test -/
theorem compGo_filter {t : T} {c : Ev → Store → R Bool} {f : Ev → Store → R D} {g : D → D} {p : D → Bool} {env : Ev} {st : Store} : ∀ (xs : List D), (∀ x ∈ xs, ∃ env', bindT t x env = some env' ∧ c env' st = .ok (p x) st ∧ f env' st = .ok (g x) st) → compGo t c f xs env st = .ok ((xs.filter p).map g) st
  | [], _ => rfl
  | x :: xs, h => by
    obtain ⟨env', h1, h2, h3⟩ := h x (List.mem_cons_self ..)
    unfold compGo
    rw [h1]
    have ih := compGo_filter (t := t) (c := c) (f := f) (g := g) (p := p) (env := env) (st := st) xs fun y hy => h y (List.mem_cons_of_mem _ hy)
    cases e : p x with
    | true => simp only [h2, h3, e, R.calm_ok, R.bind_ok, if_true, ih, List.filter_cons, List.map_cons]
    | false => simp only [h2, h3, e, R.calm_ok, R.bind_ok, if_false, ih, List.filter_cons, Bool.false_eq_true]
theorem rangeI_eq {a b : Int} (ha : a.natAbs ≤ 1000000) (hb : b.natAbs ≤ 1000000) : rangeI a b 1 = some ((List.range (b - a).toNat).map fun (k : Nat) => .int (a + k)) := by
  have c : a.natAbs ≤ lim ∧ b.natAbs ≤ lim ∧ (0 : Int) < 1 ∧ (1 : Int) ≤ lim := ⟨ha, hb, by decide, by decide⟩
  unfold rangeI
  rw [if_pos c]
  simp
end DD

set_option Elab.async false
set_option linter.all false
set_option maxRecDepth 100000
set_option maxHeartbeats 1000000
/-! plain lemmas about lots, parts, draws: no program in sight -/
namespace DD
open PySem (Str)
theorem foldl_min_nonneg : ∀ (xs : List Int) (a : Int), 0 ≤ a → (∀ x ∈ xs, 0 ≤ x) → 0 ≤ xs.foldl min a
  | [], a, h, _ => h
  | x :: xs, a, h, k => foldl_min_nonneg xs _ (by have := k x (by simp); omega) fun y hy => k y (by simp [hy])
theorem le_foldl_max : ∀ (xs : List Int) (a : Int), a ≤ xs.foldl max a
  | [], a => Int.le_refl _
  | x :: xs, a => Int.le_trans (Int.le_max_left a x) (le_foldl_max xs _)
theorem mem_foldl_max : ∀ (xs : List Int) (a : Int), ∀ x ∈ xs, x ≤ xs.foldl max a
  | y :: xs, a, x, h => by
    rcases List.mem_cons.mp h with rfl | h
    · exact Int.le_trans (Int.le_max_right a x) (le_foldl_max xs _)
    · exact mem_foldl_max xs _ x h
theorem foldl_max_le : ∀ (xs : List Int) (a b : Int), a ≤ b → (∀ x ∈ xs, x ≤ b) → xs.foldl max a ≤ b
  | [], a, b, h, _ => h
  | x :: xs, a, b, h, k => foldl_max_le xs _ b (by have := k x (by simp); omega) fun y hy => k y (by simp [hy])
/-- a lot of parts: its parts, its last -/
structure Pt (ys : List Int) (z : Int) : Prop where
  l1 : 1 ≤ ys.length
  l3 : ys.length ≤ 3
  nn : ∀ y ∈ ys, 0 ≤ y
  sm : ∀ y ∈ ys, y < 2 ^ 200
  zp : 0 < z
  zs : z < 2 ^ 200
def topv (b z p : Int) : Int := (2 * b * p + z - 1).fdiv (2 * z)
def errv (b z p : Int) : Int := b * p - topv b z p * z
theorem topv_nn {b z p : Int} (h1 : 1 ≤ b) (zp : 0 < z) (hp : 0 ≤ p) : 0 ≤ topv b z p := by
  unfold topv
  have : 0 ≤ 2 * b * p := Int.mul_nonneg (by omega) hp
  exact Int.fdiv_nonneg (by omega) (by omega)
theorem topv_le {b z p : Int} (h1 : 1 ≤ b) (zp : 0 < z) (hp : 0 ≤ p) : topv b z p ≤ 2 * b * p + z - 1 := by
  unfold topv
  have : 0 ≤ 2 * b * p := Int.mul_nonneg (by omega) hp
  rw [Int.fdiv_eq_ediv_of_nonneg _ (by omega)]
  exact Int.ediv_le_self _ (by omega)
theorem topv_sm {b z p : Int} (h1 : 1 ≤ b) (h2 : b ≤ 1000000000000) (zp : 0 < z) (zs : z < 2 ^ 200) (hp : 0 ≤ p) (hs : p < 2 ^ 200) : (topv b z p).natAbs < 2 ^ 300 := by
  have a1 := topv_nn h1 zp hp
  have a2 := topv_le h1 zp hp
  have a3 : 2 * b * p ≤ 2000000000000 * 2 ^ 200 := Int.mul_le_mul (by omega) (by omega) hp (by decide)
  omega
def absv (i : Int) : Int := if i < 0 then -i else i
theorem maxI_some {xs : List Int} (h : 1 ≤ xs.length) : ∃ m, maxI xs = some m := by
  cases xs with
  | nil => simp at h
  | cons x xs => exact ⟨_, rfl⟩
/-- a pot stands there -/
def Pot (r : Nat) (st : Store) : Prop := ∃ p : Int, st[r]? = some (.lst [.int p])
/-- the draw of a pot's first number -/
theorem mod_bd (x : Int) {m : Int} (h : 0 < m) : 0 ≤ x.fmod m ∧ x.fmod m < m := ⟨Int.fmod_nonneg_of_pos _ h, Int.fmod_lt_of_pos _ h⟩
theorem lot_far {k : Int} (h0 : 0 ≤ k) (h1 : k < 5) : ∃ f : Int, idxD (.lst [.int 4, .int 31, .int 1001, .int (10 ^ 15), .int (10 ^ 39)]) (.int k) = some (.int f) ∧ 4 ≤ f ∧ f ≤ 10 ^ 39 := by
  have : k = 0 ∨ k = 1 ∨ k = 2 ∨ k = 3 ∨ k = 4 := by omega
  rcases this with rfl | rfl | rfl | rfl | rfl <;> exact ⟨_, rfl, by decide, by decide⟩
theorem far_small {f : Int} (h : f ≤ 10 ^ 39) : f < 2 ^ 8000 := by
  refine Int.lt_of_le_of_lt h (Int.lt_of_lt_of_le (b := 2 ^ 200) (by decide) ?_)
  exact_mod_cast Nat.pow_le_pow_right (n := 2) (by decide) (show 200 ≤ 8000 by decide)
theorem split_last {xs : List Int} (h : 1 ≤ xs.length) : ∃ ys z, xs = ys ++ [z] := by
  rcases List.eq_nil_or_concat xs with rfl | ⟨ys, z, e⟩
  · simp at h
  · exact ⟨ys, z, by simpa using e⟩
theorem add_ti {ys : List Int} {v : Int} (h : ys.length ≤ 1000) : binop .add (ti ys) (.tup [.int v]) = some (ti (ys ++ [v])) := by
  simp [ti, -ti_mk, binop, lim]
  omega
/-- one case of the law -/
theorem map_ints {ys : List Int} {g : D → D} {h : Int → Int} (e : ∀ y ∈ ys, g (.int y) = .int (h y)) : (ys.map D.int).map g = (ys.map h).map .int := by
  simp only [List.map_map]
  exact List.map_congr_left fun y hy => e y hy
def gErr (b z : Int) : D → D
  | .tup [.int p, _] => .int (errv b z p)
  | d => d
/-! ### records -/
def pr (p : Int × Int) : D := ti [p.1, p.2]
/-- the records of the first k bottoms, wv the worst by a bottom -/
def recs (wv : Int → Int) : Nat → List (Int × Int)
  | 0 => []
  | k + 1 => if (recs wv k).all (fun p => decide (wv (k + 1) < p.2)) then recs wv k ++ [((k + 1 : Int), wv (k + 1))] else recs wv k
theorem recs_len (wv : Int → Int) : ∀ k, (recs wv k).length ≤ k
  | 0 => Nat.le_refl _
  | k + 1 => by
    have := recs_len wv k
    unfold recs
    split
    · simp; omega
    · omega
/-- the last is the least -/
theorem recs_last (wv : Int → Int) : ∀ k, ∀ init l, recs wv k = init ++ [l] → ∀ p ∈ recs wv k, l.2 ≤ p.2
  | 0, init, l, e, p, hp => by simp [recs] at hp
  | k + 1, init, l, e, p, hp => by
    unfold recs at e hp
    split at e
    · rename_i hc
      rw [if_pos hc] at hp
      obtain ⟨e1, e2⟩ := List.append_inj' e rfl
      cases e2
      rcases List.mem_append.mp hp with hp | hp
      · have := List.all_eq_true.mp hc p hp
        rw [decide_eq_true_eq] at this
        exact Int.le_of_lt this
      · simp at hp; subst hp; exact Int.le_refl _
    · rename_i hc
      rw [if_neg hc] at hp
      exact recs_last wv k init l e p hp
theorem recs_cond (wv : Int → Int) (k : Nat) {init : List (Int × Int)} {l : Int × Int} (e : recs wv k = init ++ [l]) (h : Int) : ((recs wv k).all fun p => decide (h < p.2)) = decide (h < l.2) := by
  rw [Bool.eq_iff_iff, List.all_eq_true, decide_eq_true_eq]
  constructor
  · intro z
    have := z l (by rw [e]; simp)
    simpa using this
  · intro z p hp
    have := recs_last wv k init l e p hp
    rw [decide_eq_true_eq]; omega
theorem shal_ti (n : Nat) (xs : List Int) : shal (n + 1) (ti xs) = true := by
  simp [ti, -ti_mk, shal]
theorem shal_prs (n : Nat) (ps : List (Int × Int)) : shal (n + 2) (.lst (ps.map pr)) = true := by
  simp [shal, pr, shal_ti]
theorem eq_prs_nil (ps : List (Int × Int)) : cmpop .eq (.lst (ps.map pr)) (.lst []) = some ps.isEmpty := by
  have e : cmpop .eq (.lst (ps.map pr)) (.lst []) = if shal 12 (.lst (ps.map pr)) && shal 12 (.lst []) then some (eqD (.lst (ps.map pr)) (.lst [])) else none := rfl
  rw [e, shal_prs]
  cases ps <;> simp [shal, eqD, eqDs]
/-- the worst: what the parts leave, the greatest -/
def wstv (ys : List Int) (z b : Int) : Int := (maxI ((ys.map (errv b z)).map absv)).getD 0
theorem wstv_eq {ys : List Int} (h : 1 ≤ ys.length) (z b : Int) : maxI ((ys.map (errv b z)).map absv) = some (wstv ys z b) := by
  obtain ⟨m, e⟩ := maxI_some (xs := (ys.map (errv b z)).map absv) (by simpa using h)
  unfold wstv; rw [e]; rfl
theorem top_low {b z p : Int} (zp : 0 < z) (hN : 0 ≤ b * p) : topv b z p = (b * p).fdiv z + if z - (b * p - (b * p).fdiv z * z) < b * p - (b * p).fdiv z * z then 1 else 0 := by
    unfold topv
    rw [Int.fdiv_eq_ediv_of_nonneg _ (by omega), Int.fdiv_eq_ediv_of_nonneg _ (by omega)]
    have e : 2 * b * p = 2 * (b * p) := by rw [Int.mul_assoc]
    rw [e]
    generalize b * p = N at hN ⊢
    have d1 := Int.mul_ediv_add_emod N z
    have d2 := Int.emod_nonneg N (show z ≠ 0 by omega)
    have d3 := Int.emod_lt_of_pos N zp
    generalize N / z = q at d1 ⊢
    generalize N % z = r at d1 d2 d3
    have c : q * z = z * q := Int.mul_comm _ _
    have r1 : N - q * z = r := by omega
    rw [r1]
    have e3 : 2 * N + z - 1 = (2 * r + z - 1) + q * (2 * z) := by
      have : q * (2 * z) = 2 * (z * q) := by rw [Int.mul_left_comm, Int.mul_comm q z]
      omega
    rw [e3, Int.add_mul_ediv_right _ _ (by omega)]
    split
    · have : (2 * r + z - 1) / (2 * z) = 1 := by
        apply Int.le_antisymm
        · have := Int.ediv_lt_of_lt_mul (a := 2 * r + z - 1) (b := 2) (c := 2 * z) (by omega) (by omega); omega
        · exact Int.le_ediv_of_mul_le (by omega) (by omega)
      omega
    · have : (2 * r + z - 1) / (2 * z) = 0 := Int.ediv_eq_zero_of_lt (by omega) (by omega)
      omega
theorem abs_err {b z p : Int} (zp : 0 < z) (hN : 0 ≤ b * p) : absv (errv b z p) = if z - (b * p).fmod z < (b * p).fmod z then z - (b * p).fmod z else (b * p).fmod z := by
  unfold errv
  rw [top_low zp hN]
  have d1 : (b * p).fmod z + z * (b * p).fdiv z = b * p := Int.fmod_add_mul_fdiv _ _
  have d2 := Int.fmod_nonneg_of_pos (b * p) zp
  have d3 := Int.fmod_lt_of_pos (b * p) zp
  generalize (b * p).fdiv z = q at d1 ⊢
  generalize (b * p).fmod z = r at d1 d2 d3 ⊢
  generalize b * p = N at d1 hN ⊢
  have c : z * q = q * z := Int.mul_comm _ _
  have r1 : N - q * z = r := by omega
  rw [r1]
  unfold absv
  rw [Int.add_mul]
  split <;> rename_i h1 <;> simp only [Int.one_mul, Int.zero_mul] <;> split <;> omega
end DD

set_option Elab.async false
set_option linter.all false
set_option maxRecDepth 100000
set_option maxHeartbeats 0
/-! plain lemmas about tables: no program in sight -/
namespace DD
open PySem (Str)
abbrev Mx := List (List Int)
def tb (M : Mx) : D := .tup (M.map ti)
structure Sq (n : Nat) (M : Mx) : Prop where
  l : M.length = n
  r : ∀ r ∈ M, r.length = n
def dot (xs ys : List Int) : Int := (List.zipWith (fun a b => a * b) xs ys).sum
def ledM (M : Mx) (v : List Int) : List Int := M.map fun r => dot r v
def colM (M : Mx) (j : Nat) : List Int := M.map fun r => r.getD j 0
def mulM (A B : Mx) : Mx := (List.range A.length).map fun i => (List.range A.length).map fun j => (ledM A (colM B j)).getD i 0
def lessM (M : Mx) (i j : Nat) : Mx := (M.eraseIdx i).map fun r => r.eraseIdx j
def sgn (c : Nat) : Int := if c % 2 = 0 then 1 else -1
def detM : Nat → Mx → Int
  | 0, _ => 0
  | 1, M => (M.getD 0 []).getD 0 0
  | k + 2, M => ((List.range (k + 2)).map fun c => (M.getD 0 []).getD c 0 * detM (k + 1) (lessM M 0 c) * sgn c).sum
def adjM (n : Nat) (M : Mx) : Mx := (List.range n).map fun i => (List.range n).map fun j => sgn (i + j) * detM (n - 1) (lessM M j i)
def backM (n : Nat) (M : Mx) : Mx := (List.range n).map fun i => (List.range n).map fun j => sgn (i + j) * detM n M * detM (n - 1) (lessM M j i)
def oneM (n : Nat) : Mx := (List.range n).map fun i => (List.range n).map fun j => if i = j then 1 else 0
theorem len2 {α : Type} {xs : List α} (h : xs.length = 2) : ∃ a b, xs = [a, b] := by
  match xs, h with
  | [a, b], _ => exact ⟨a, b, rfl⟩
theorem len3 {α : Type} {xs : List α} (h : xs.length = 3) : ∃ a b c, xs = [a, b, c] := by
  match xs, h with
  | [a, b, c], _ => exact ⟨a, b, c, rfl⟩
theorem len4 {α : Type} {xs : List α} (h : xs.length = 4) : ∃ a b c d, xs = [a, b, c, d] := by
  match xs, h with
  | [a, b, c, d], _ => exact ⟨a, b, c, d, rfl⟩
theorem Sq.x2 {M : Mx} (h : Sq 2 M) : ∃ a b c d, M = [[a, b], [c, d]] := by
  obtain ⟨l, r⟩ := h
  obtain ⟨r1, r2, rfl⟩ := len2 l
  obtain ⟨a, b, rfl⟩ := len2 (r r1 (by simp))
  obtain ⟨c, d, rfl⟩ := len2 (r r2 (by simp))
  exact ⟨a, b, c, d, rfl⟩
theorem Sq.x3 {M : Mx} (h : Sq 3 M) : ∃ a b c d e f g h i, M = [[a, b, c], [d, e, f], [g, h, i]] := by
  obtain ⟨l, r⟩ := h
  obtain ⟨r1, r2, r3, rfl⟩ := len3 l
  obtain ⟨a, b, c, rfl⟩ := len3 (r r1 (by simp))
  obtain ⟨d, e, f, rfl⟩ := len3 (r r2 (by simp))
  obtain ⟨g, h, i, rfl⟩ := len3 (r r3 (by simp))
  exact ⟨a, b, c, d, e, f, g, h, i, rfl⟩
theorem Sq.x4 {M : Mx} (h : Sq 4 M) : ∃ a b c d e f g h i j k l m n o p, M = [[a, b, c, d], [e, f, g, h], [i, j, k, l], [m, n, o, p]] := by
  obtain ⟨hl, hr⟩ := h
  obtain ⟨r1, r2, r3, r4, rfl⟩ := len4 hl
  obtain ⟨a, b, c, d, rfl⟩ := len4 (hr r1 (by simp))
  obtain ⟨e, f, g, h, rfl⟩ := len4 (hr r2 (by simp))
  obtain ⟨i, j, k, l, rfl⟩ := len4 (hr r3 (by simp))
  obtain ⟨m, n, o, p, rfl⟩ := len4 (hr r4 (by simp))
  exact ⟨a, b, c, d, e, f, g, h, i, j, k, l, m, n, o, p, rfl⟩
theorem rg1 : List.range 1 = [0] := rfl
theorem rg2 : List.range 2 = [0, 1] := rfl
theorem rg3 : List.range 3 = [0, 1, 2] := rfl
theorem rg4 : List.range 4 = [0, 1, 2, 3] := rfl
theorem Sq.mul {n : Nat} {A B : Mx} (a : Sq n A) : Sq n (mulM A B) := by
  refine ⟨by simp [mulM, a.l], ?_⟩
  intro r hr
  obtain ⟨i, _, rfl⟩ := List.mem_map.mp hr
  simp [a.l]
theorem Sq.back (n : Nat) (A : Mx) : Sq n (backM n A) := by
  refine ⟨by simp [backM], ?_⟩
  intro r hr
  obtain ⟨i, _, rfl⟩ := List.mem_map.mp hr
  simp
theorem Sq.one (n : Nat) : Sq n (oneM n) := by
  refine ⟨by simp [oneM], ?_⟩
  intro r hr
  obtain ⟨i, _, rfl⟩ := List.mem_map.mp hr
  simp
section
theorem assocM {n : Nat} (h2 : 2 ≤ n) (h4 : n ≤ 4) {A B C : Mx} (a : Sq n A) (b : Sq n B) (c : Sq n C) : mulM (mulM A B) C = mulM A (mulM B C) := by
  rcases (show n = 2 ∨ n = 3 ∨ n = 4 by omega) with rfl | rfl | rfl
  · obtain ⟨a1, a2, a3, a4, rfl⟩ := a.x2
    obtain ⟨b1, b2, b3, b4, rfl⟩ := b.x2
    obtain ⟨c1, c2, c3, c4, rfl⟩ := c.x2
    simp only [mulM, ledM, colM, dot, rg1, rg2, rg3, rg4, List.length_cons, List.length_nil, Nat.reduceAdd, List.map_cons, List.map_nil, List.getD_cons_zero, List.getD_cons_succ, List.zipWith_cons_cons, List.zipWith_nil_left, List.zipWith_nil_right, List.sum_cons, List.sum_nil, Int.add_zero]
    simp only [List.cons.injEq, and_true]
    refine ⟨⟨?_, ?_⟩, ⟨?_, ?_⟩⟩ <;> grind
  · obtain ⟨a1, a2, a3, a4, a5, a6, a7, a8, a9, rfl⟩ := a.x3
    obtain ⟨b1, b2, b3, b4, b5, b6, b7, b8, b9, rfl⟩ := b.x3
    obtain ⟨c1, c2, c3, c4, c5, c6, c7, c8, c9, rfl⟩ := c.x3
    simp only [mulM, ledM, colM, dot, rg1, rg2, rg3, rg4, List.length_cons, List.length_nil, Nat.reduceAdd, List.map_cons, List.map_nil, List.getD_cons_zero, List.getD_cons_succ, List.zipWith_cons_cons, List.zipWith_nil_left, List.zipWith_nil_right, List.sum_cons, List.sum_nil, Int.add_zero]
    simp only [List.cons.injEq, and_true]
    refine ⟨⟨?_, ?_, ?_⟩, ⟨?_, ?_, ?_⟩, ⟨?_, ?_, ?_⟩⟩ <;> grind
  · obtain ⟨a1, a2, a3, a4, a5, a6, a7, a8, a9, a10, a11, a12, a13, a14, a15, a16, rfl⟩ := a.x4
    obtain ⟨b1, b2, b3, b4, b5, b6, b7, b8, b9, b10, b11, b12, b13, b14, b15, b16, rfl⟩ := b.x4
    obtain ⟨c1, c2, c3, c4, c5, c6, c7, c8, c9, c10, c11, c12, c13, c14, c15, c16, rfl⟩ := c.x4
    simp only [mulM, ledM, colM, dot, rg1, rg2, rg3, rg4, List.length_cons, List.length_nil, Nat.reduceAdd, List.map_cons, List.map_nil, List.getD_cons_zero, List.getD_cons_succ, List.zipWith_cons_cons, List.zipWith_nil_left, List.zipWith_nil_right, List.sum_cons, List.sum_nil, Int.add_zero]
    simp only [List.cons.injEq, and_true]
    refine ⟨⟨?_, ?_, ?_, ?_⟩, ⟨?_, ?_, ?_, ?_⟩, ⟨?_, ?_, ?_, ?_⟩, ⟨?_, ?_, ?_, ?_⟩⟩ <;> grind
theorem ledMul {n : Nat} (h2 : 2 ≤ n) (h4 : n ≤ 4) {A B : Mx} {v : List Int} (a : Sq n A) (b : Sq n B) (c : v.length = n) : ledM (mulM A B) v = ledM A (ledM B v) := by
  rcases (show n = 2 ∨ n = 3 ∨ n = 4 by omega) with rfl | rfl | rfl
  · obtain ⟨a1, a2, a3, a4, rfl⟩ := a.x2
    obtain ⟨b1, b2, b3, b4, rfl⟩ := b.x2
    obtain ⟨c1, c2, rfl⟩ := len2 c
    simp only [mulM, ledM, colM, dot, rg1, rg2, rg3, rg4, List.length_cons, List.length_nil, Nat.reduceAdd, List.map_cons, List.map_nil, List.getD_cons_zero, List.getD_cons_succ, List.zipWith_cons_cons, List.zipWith_nil_left, List.zipWith_nil_right, List.sum_cons, List.sum_nil, Int.add_zero]
    simp only [List.cons.injEq, and_true]
    refine ⟨?_, ?_⟩ <;> grind
  · obtain ⟨a1, a2, a3, a4, a5, a6, a7, a8, a9, rfl⟩ := a.x3
    obtain ⟨b1, b2, b3, b4, b5, b6, b7, b8, b9, rfl⟩ := b.x3
    obtain ⟨c1, c2, c3, rfl⟩ := len3 c
    simp only [mulM, ledM, colM, dot, rg1, rg2, rg3, rg4, List.length_cons, List.length_nil, Nat.reduceAdd, List.map_cons, List.map_nil, List.getD_cons_zero, List.getD_cons_succ, List.zipWith_cons_cons, List.zipWith_nil_left, List.zipWith_nil_right, List.sum_cons, List.sum_nil, Int.add_zero]
    simp only [List.cons.injEq, and_true]
    refine ⟨?_, ?_, ?_⟩ <;> grind
  · obtain ⟨a1, a2, a3, a4, a5, a6, a7, a8, a9, a10, a11, a12, a13, a14, a15, a16, rfl⟩ := a.x4
    obtain ⟨b1, b2, b3, b4, b5, b6, b7, b8, b9, b10, b11, b12, b13, b14, b15, b16, rfl⟩ := b.x4
    obtain ⟨c1, c2, c3, c4, rfl⟩ := len4 c
    simp only [mulM, ledM, colM, dot, rg1, rg2, rg3, rg4, List.length_cons, List.length_nil, Nat.reduceAdd, List.map_cons, List.map_nil, List.getD_cons_zero, List.getD_cons_succ, List.zipWith_cons_cons, List.zipWith_nil_left, List.zipWith_nil_right, List.sum_cons, List.sum_nil, Int.add_zero]
    simp only [List.cons.injEq, and_true]
    refine ⟨?_, ?_, ?_, ?_⟩ <;> grind
theorem oneMul {n : Nat} (h2 : 2 ≤ n) (h4 : n ≤ 4) {A : Mx} (a : Sq n A) : mulM (oneM n) A = A ∧ mulM A (oneM n) = A := by
  rcases (show n = 2 ∨ n = 3 ∨ n = 4 by omega) with rfl | rfl | rfl
  · obtain ⟨a1, a2, a3, a4, rfl⟩ := a.x2
    constructor <;> simp [oneM, mulM, ledM, colM, dot, rg2]
  · obtain ⟨a1, a2, a3, a4, a5, a6, a7, a8, a9, rfl⟩ := a.x3
    constructor <;> simp [oneM, mulM, ledM, colM, dot, rg3]
  · obtain ⟨a1, a2, a3, a4, a5, a6, a7, a8, a9, a10, a11, a12, a13, a14, a15, a16, rfl⟩ := a.x4
    constructor <;> simp [oneM, mulM, ledM, colM, dot, rg4]
theorem ledOne {n : Nat} (h2 : 2 ≤ n) (h4 : n ≤ 4) {v : List Int} (c : v.length = n) : ledM (oneM n) v = v := by
  rcases (show n = 2 ∨ n = 3 ∨ n = 4 by omega) with rfl | rfl | rfl
  · obtain ⟨c1, c2, rfl⟩ := len2 c
    simp [oneM, ledM, dot, rg2]
  · obtain ⟨c1, c2, c3, rfl⟩ := len3 c
    simp [oneM, ledM, dot, rg3]
  · obtain ⟨c1, c2, c3, c4, rfl⟩ := len4 c
    simp [oneM, ledM, dot, rg4]
theorem sg0 : sgn 0 = 1 := rfl
theorem sg1 : sgn 1 = -1 := rfl
theorem sg2 : sgn 2 = 1 := rfl
theorem sg3 : sgn 3 = -1 := rfl
theorem sg4 : sgn 4 = 1 := rfl
theorem sg5 : sgn 5 = -1 := rfl
theorem sg6 : sgn 6 = 1 := rfl
theorem d1 (a : Int) : detM 1 [[a]] = a := rfl
theorem d2 (a b c d : Int) : detM 2 [[a, b], [c, d]] = a * d - b * c := by
  rw [show detM 2 [[a, b], [c, d]] = a * d * 1 + (b * c * (-1) + 0) from rfl]
  grind
theorem d3 (a b c d e f g h i : Int) : detM 3 [[a, b, c], [d, e, f], [g, h, i]] = a * (e * i - f * h) - b * (d * i - f * g) + c * (d * h - e * g) := by
  rw [show detM 3 [[a, b, c], [d, e, f], [g, h, i]] = a * detM 2 [[e, f], [h, i]] * 1 + (b * detM 2 [[d, f], [g, i]] * (-1) + (c * detM 2 [[d, e], [g, h]] * 1 + 0)) from rfl]
  simp only [d2]; grind
theorem d4 (a b c d e f g h i j k l m n o p : Int) : detM 4 [[a, b, c, d], [e, f, g, h], [i, j, k, l], [m, n, o, p]] = a * detM 3 [[f, g, h], [j, k, l], [n, o, p]] - b * detM 3 [[e, g, h], [i, k, l], [m, o, p]] + c * detM 3 [[e, f, h], [i, j, l], [m, n, p]] - d * detM 3 [[e, f, g], [i, j, k], [m, n, o]] := by
  rw [show detM 4 [[a, b, c, d], [e, f, g, h], [i, j, k, l], [m, n, o, p]] = a * detM 3 [[f, g, h], [j, k, l], [n, o, p]] * 1 + (b * detM 3 [[e, g, h], [i, k, l], [m, o, p]] * (-1) + (c * detM 3 [[e, f, h], [i, j, l], [m, n, p]] * 1 + (d * detM 3 [[e, f, g], [i, j, k], [m, n, o]] * (-1) + 0))) from rfl]
  grind
theorem detMul {n : Nat} (h2 : 2 ≤ n) (h4 : n ≤ 4) {A B : Mx} (a : Sq n A) (b : Sq n B) : detM n (mulM A B) = detM n A * detM n B := by
  rcases (show n = 2 ∨ n = 3 ∨ n = 4 by omega) with rfl | rfl | rfl
  · obtain ⟨a1, a2, a3, a4, rfl⟩ := a.x2
    obtain ⟨b1, b2, b3, b4, rfl⟩ := b.x2
    simp only [mulM, ledM, colM, dot, rg1, rg2, rg3, rg4, List.length_cons, List.length_nil, Nat.reduceAdd, List.map_cons, List.map_nil, List.getD_cons_zero, List.getD_cons_succ, List.zipWith_cons_cons, List.zipWith_nil_left, List.zipWith_nil_right, List.sum_cons, List.sum_nil, Int.add_zero]
    simp only [d2]; grind
  · obtain ⟨a1, a2, a3, a4, a5, a6, a7, a8, a9, rfl⟩ := a.x3
    obtain ⟨b1, b2, b3, b4, b5, b6, b7, b8, b9, rfl⟩ := b.x3
    simp only [mulM, ledM, colM, dot, rg1, rg2, rg3, rg4, List.length_cons, List.length_nil, Nat.reduceAdd, List.map_cons, List.map_nil, List.getD_cons_zero, List.getD_cons_succ, List.zipWith_cons_cons, List.zipWith_nil_left, List.zipWith_nil_right, List.sum_cons, List.sum_nil, Int.add_zero]
    simp only [d3]; grind
  · obtain ⟨a1, a2, a3, a4, a5, a6, a7, a8, a9, a10, a11, a12, a13, a14, a15, a16, rfl⟩ := a.x4
    obtain ⟨b1, b2, b3, b4, b5, b6, b7, b8, b9, b10, b11, b12, b13, b14, b15, b16, rfl⟩ := b.x4
    simp only [mulM, ledM, colM, dot, rg1, rg2, rg3, rg4, List.length_cons, List.length_nil, Nat.reduceAdd, List.map_cons, List.map_nil, List.getD_cons_zero, List.getD_cons_succ, List.zipWith_cons_cons, List.zipWith_nil_left, List.zipWith_nil_right, List.sum_cons, List.sum_nil, Int.add_zero]
    simp only [d4, d3]; grind
theorem detOne {n : Nat} (h2 : 2 ≤ n) (h4 : n ≤ 4) : detM n (oneM n) = 1 := by
  rcases (show n = 2 ∨ n = 3 ∨ n = 4 by omega) with rfl | rfl | rfl <;> decide +kernel
theorem adj2 (a b c d : Int) : adjM 2 [[a, b], [c, d]] = [[1 * detM 1 [[d]], (-1) * detM 1 [[b]]], [(-1) * detM 1 [[c]], 1 * detM 1 [[a]]]] := rfl
theorem adj3 (a b c d e f g h i : Int) : adjM 3 [[a, b, c], [d, e, f], [g, h, i]] = [[1 * detM 2 [[e, f], [h, i]], (-1) * detM 2 [[b, c], [h, i]], 1 * detM 2 [[b, c], [e, f]]], [(-1) * detM 2 [[d, f], [g, i]], 1 * detM 2 [[a, c], [g, i]], (-1) * detM 2 [[a, c], [d, f]]], [1 * detM 2 [[d, e], [g, h]], (-1) * detM 2 [[a, b], [g, h]], 1 * detM 2 [[a, b], [d, e]]]] := rfl
theorem adj4 (a b c d e f g h i j k l m n o p : Int) : adjM 4 [[a, b, c, d], [e, f, g, h], [i, j, k, l], [m, n, o, p]] = [[1 * detM 3 [[f, g, h], [j, k, l], [n, o, p]], (-1) * detM 3 [[b, c, d], [j, k, l], [n, o, p]], 1 * detM 3 [[b, c, d], [f, g, h], [n, o, p]], (-1) * detM 3 [[b, c, d], [f, g, h], [j, k, l]]], [(-1) * detM 3 [[e, g, h], [i, k, l], [m, o, p]], 1 * detM 3 [[a, c, d], [i, k, l], [m, o, p]], (-1) * detM 3 [[a, c, d], [e, g, h], [m, o, p]], 1 * detM 3 [[a, c, d], [e, g, h], [i, k, l]]], [1 * detM 3 [[e, f, h], [i, j, l], [m, n, p]], (-1) * detM 3 [[a, b, d], [i, j, l], [m, n, p]], 1 * detM 3 [[a, b, d], [e, f, h], [m, n, p]], (-1) * detM 3 [[a, b, d], [e, f, h], [i, j, l]]], [(-1) * detM 3 [[e, f, g], [i, j, k], [m, n, o]], 1 * detM 3 [[a, b, c], [i, j, k], [m, n, o]], (-1) * detM 3 [[a, b, c], [e, f, g], [m, n, o]], 1 * detM 3 [[a, b, c], [e, f, g], [i, j, k]]]] := rfl
def scM (k : Int) (M : Mx) : Mx := M.map fun r => r.map fun x => k * x
theorem back_sc (n : Nat) (M : Mx) : backM n M = scM (detM n M) (adjM n M) := by
  simp only [backM, scM, adjM, List.map_map]
  refine List.map_congr_left fun i _ => ?_
  simp only [Function.comp_def, List.map_map]
  exact List.map_congr_left fun j _ => by grind
theorem Sq.sc {n : Nat} {A : Mx} (a : Sq n A) (k : Int) : Sq n (scM k A) := by
  refine ⟨by simp [scM, a.l], ?_⟩
  intro r hr
  obtain ⟨i, hi, rfl⟩ := List.mem_map.mp hr
  simp [a.r i hi]
theorem Sq.adj (n : Nat) (A : Mx) : Sq n (adjM n A) := by
  refine ⟨by simp [adjM], ?_⟩
  intro r hr
  obtain ⟨i, _, rfl⟩ := List.mem_map.mp hr
  simp
theorem scsc (k l : Int) (A : Mx) : scM k (scM l A) = scM (k * l) A := by
  simp only [scM, List.map_map]
  refine List.map_congr_left fun i _ => ?_
  simp only [Function.comp_def, List.map_map]
  exact List.map_congr_left fun j _ => by grind
theorem sc1 (A : Mx) : scM 1 A = A := by
  simp [scM]
theorem sumsc (k : Int) : ∀ (xs ys : List Int), dot (xs.map (k * ·)) ys = k * dot xs ys
  | [], _ => by simp [dot]
  | x :: xs, [] => by simp [dot]
  | x :: xs, y :: ys => by
    have := sumsc k xs ys
    simp only [dot, List.map_cons, List.zipWith_cons_cons, List.sum_cons] at this ⊢
    rw [this]; grind
theorem sumsc2 (k : Int) : ∀ (xs ys : List Int), dot xs (ys.map (k * ·)) = k * dot xs ys
  | [], _ => by simp [dot]
  | x :: xs, [] => by simp [dot]
  | x :: xs, y :: ys => by
    have := sumsc2 k xs ys
    simp only [dot, List.map_cons, List.zipWith_cons_cons, List.sum_cons] at this ⊢
    rw [this]; grind
theorem getD_sc (k : Int) (xs : List Int) (i : Nat) : (xs.map (k * ·)).getD i 0 = k * xs.getD i 0 := by
  simp only [List.getD_eq_getElem?_getD, List.getElem?_map]
  cases xs[i]? <;> simp
theorem mulsc (k : Int) (A B : Mx) : mulM (scM k A) B = scM k (mulM A B) := by
  simp only [mulM, scM, List.map_map, List.length_map]
  refine List.map_congr_left fun i _ => ?_
  simp only [Function.comp_def, List.map_map]
  refine List.map_congr_left fun j _ => ?_
  rw [← getD_sc]
  simp only [ledM, List.map_map, Function.comp_def]
  congr 1
  exact List.map_congr_left fun r _ => sumsc k r _
theorem mulsc2 (k : Int) (A B : Mx) : mulM A (scM k B) = scM k (mulM A B) := by
  simp only [mulM, scM, List.map_map]
  refine List.map_congr_left fun i _ => ?_
  simp only [Function.comp_def, List.map_map]
  refine List.map_congr_left fun j _ => ?_
  rw [← getD_sc]
  simp only [ledM, List.map_map, Function.comp_def]
  congr 1
  refine List.map_congr_left fun r _ => ?_
  rw [← sumsc2]
  congr 1
  simp only [colM, List.map_map, Function.comp_def]
  exact List.map_congr_left fun q _ => getD_sc k q j
theorem adjMul {n : Nat} (h2 : 2 ≤ n) (h4 : n ≤ 4) {A : Mx} (a : Sq n A) : mulM (adjM n A) A = scM (detM n A) (oneM n) ∧ mulM A (adjM n A) = scM (detM n A) (oneM n) := by
  rcases (show n = 2 ∨ n = 3 ∨ n = 4 by omega) with rfl | rfl | rfl
  · obtain ⟨a1, a2, a3, a4, rfl⟩ := a.x2
    rw [adj2, show oneM 2 = [[1, 0], [0, 1]] from rfl]
    constructor
    all_goals
      simp only [mulM, ledM, colM, dot, rg1, rg2, rg3, rg4, List.length_cons, List.length_nil, Nat.reduceAdd, List.map_cons, List.map_nil, List.getD_cons_zero, List.getD_cons_succ, List.zipWith_cons_cons, List.zipWith_nil_left, List.zipWith_nil_right, List.sum_cons, List.sum_nil, Int.add_zero]
      simp only [scM, List.map_cons, List.map_nil, d2, d1, List.cons.injEq, and_true]
      refine ⟨⟨?_, ?_⟩, ⟨?_, ?_⟩⟩ <;> grind
  · obtain ⟨a1, a2, a3, a4, a5, a6, a7, a8, a9, rfl⟩ := a.x3
    rw [adj3, show oneM 3 = [[1, 0, 0], [0, 1, 0], [0, 0, 1]] from rfl]
    constructor
    all_goals
      simp only [mulM, ledM, colM, dot, rg1, rg2, rg3, rg4, List.length_cons, List.length_nil, Nat.reduceAdd, List.map_cons, List.map_nil, List.getD_cons_zero, List.getD_cons_succ, List.zipWith_cons_cons, List.zipWith_nil_left, List.zipWith_nil_right, List.sum_cons, List.sum_nil, Int.add_zero]
      simp only [scM, List.map_cons, List.map_nil, d2, d3, List.cons.injEq, and_true]
      refine ⟨⟨?_, ?_, ?_⟩, ⟨?_, ?_, ?_⟩, ⟨?_, ?_, ?_⟩⟩ <;> grind
  · obtain ⟨a1, a2, a3, a4, a5, a6, a7, a8, a9, a10, a11, a12, a13, a14, a15, a16, rfl⟩ := a.x4
    rw [adj4, show oneM 4 = [[1, 0, 0, 0], [0, 1, 0, 0], [0, 0, 1, 0], [0, 0, 0, 1]] from rfl]
    constructor
    all_goals
      simp only [mulM, ledM, colM, dot, rg1, rg2, rg3, rg4, List.length_cons, List.length_nil, Nat.reduceAdd, List.map_cons, List.map_nil, List.getD_cons_zero, List.getD_cons_succ, List.zipWith_cons_cons, List.zipWith_nil_left, List.zipWith_nil_right, List.sum_cons, List.sum_nil, Int.add_zero]
      simp only [scM, List.map_cons, List.map_nil, d4, d3, List.cons.injEq, and_true]
      refine ⟨⟨?_, ?_, ?_, ?_⟩, ⟨?_, ?_, ?_, ?_⟩, ⟨?_, ?_, ?_, ?_⟩, ⟨?_, ?_, ?_, ?_⟩⟩ <;> grind
/-- a fair table -/
structure Fair (n : Nat) (A : Mx) : Prop where
  s : Sq n A
  d : detM n A = 1 ∨ detM n A = -1
theorem Fair.back_l {n : Nat} (h2 : 2 ≤ n) (h4 : n ≤ 4) {A : Mx} (a : Fair n A) : mulM (backM n A) A = oneM n := by
  rw [back_sc, mulsc, (adjMul h2 h4 a.s).1, scsc, show detM n A * detM n A = 1 by rcases a.d with e | e <;> rw [e] <;> rfl, sc1]
theorem Fair.back_r {n : Nat} (h2 : 2 ≤ n) (h4 : n ≤ 4) {A : Mx} (a : Fair n A) : mulM A (backM n A) = oneM n := by
  rw [back_sc, mulsc2, (adjMul h2 h4 a.s).2, scsc, show detM n A * detM n A = 1 by rcases a.d with e | e <;> rw [e] <;> rfl, sc1]
theorem Fair.back {n : Nat} (h2 : 2 ≤ n) (h4 : n ≤ 4) {A : Mx} (a : Fair n A) : Fair n (backM n A) := by
  refine ⟨Sq.back n A, ?_⟩
  have e := detMul h2 h4 (Sq.back n A) a.s
  rw [a.back_l h2 h4, detOne h2 h4] at e
  rcases a.d with d | d <;> rw [d] at e
  · exact .inl (by omega)
  · exact .inr (by omega)
theorem Fair.mul {n : Nat} (h2 : 2 ≤ n) (h4 : n ≤ 4) {A B : Mx} (a : Fair n A) (b : Fair n B) : Fair n (mulM A B) := by
  refine ⟨a.s.mul, ?_⟩
  rw [detMul h2 h4 a.s b.s]
  rcases a.d with d | d <;> rcases b.d with e | e <;> rw [d, e]
  · exact .inl rfl
  · exact .inr rfl
  · exact .inr rfl
  · exact .inl rfl
theorem Fair.back_back {n : Nat} (h2 : 2 ≤ n) (h4 : n ≤ 4) {A : Mx} (a : Fair n A) : backM n (backM n A) = A := by
  have b := a.back h2 h4
  have e := (oneMul h2 h4 (Sq.back n (backM n A))).2
  rw [← a.back_l h2 h4, ← assocM h2 h4 (Sq.back n _) (Sq.back n _) a.s, b.back_l h2 h4, (oneMul h2 h4 a.s).1] at e
  exact e.symm
theorem Fair.back_mul {n : Nat} (h2 : 2 ≤ n) (h4 : n ≤ 4) {A B : Mx} (a : Fair n A) (b : Fair n B) : backM n (mulM A B) = mulM (backM n B) (backM n A) := by
  have p := a.mul h2 h4 b
  have sx : Sq n (mulM (backM n B) (backM n A)) := (Sq.back n B).mul
  have e1 : mulM (mulM (backM n B) (backM n A)) (mulM A B) = oneM n := by
    rw [assocM h2 h4 (Sq.back n B) (Sq.back n A) p.s, ← assocM h2 h4 (Sq.back n A) a.s b.s, a.back_l h2 h4, (oneMul h2 h4 b.s).1, b.back_l h2 h4]
  have e := (oneMul h2 h4 (Sq.back n (mulM A B))).1
  rw [← e1, assocM h2 h4 sx p.s (Sq.back n _), p.back_r h2 h4, (oneMul h2 h4 sx).2] at e
  exact e.symm
theorem Fair.led {n : Nat} (h2 : 2 ≤ n) (h4 : n ≤ 4) {A : Mx} (a : Fair n A) {v : List Int} (c : v.length = n) : ledM (backM n A) (ledM A v) = v := by
  rw [← ledMul h2 h4 (Sq.back n A) a.s c, a.back_l h2 h4, ledOne h2 h4 c]

end
end DD

set_option Elab.async false
set_option linter.all false
set_option maxRecDepth 100000
set_option maxHeartbeats 1000000
/-! tables as data, their bits -/
namespace DD
open PySem (Str)
theorem compGo_mapA {α : Type} {t : T} {c : Ev → Store → R Bool} {F : Ev → Store → R D} {f g : α → D} {env : Ev} {st : Store} : ∀ (xs : List α), (∀ x ∈ xs, ∃ env', bindT t (f x) env = some env' ∧ c env' st = .ok true st ∧ F env' st = .ok (g x) st) → compGo t c F (xs.map f) env st = .ok (xs.map g) st
  | [], _ => rfl
  | x :: xs, h => by
    obtain ⟨env', h1, h2, h3⟩ := h x (List.mem_cons_self ..)
    rw [List.map_cons]
    unfold compGo
    rw [h1]
    simp only [h2, h3, R.calm_ok, R.bind_ok, if_true, compGo_mapA xs fun y hy => h y (List.mem_cons_of_mem _ hy), List.map_cons]
theorem compGo_filterA {α : Type} {t : T} {c : Ev → Store → R Bool} {F : Ev → Store → R D} {f g : α → D} {p : α → Bool} {env : Ev} {st : Store} : ∀ (xs : List α), (∀ x ∈ xs, ∃ env', bindT t (f x) env = some env' ∧ c env' st = .ok (p x) st ∧ F env' st = .ok (g x) st) → compGo t c F (xs.map f) env st = .ok ((xs.filter p).map g) st
  | [], _ => rfl
  | x :: xs, h => by
    obtain ⟨env', h1, h2, h3⟩ := h x (List.mem_cons_self ..)
    rw [List.map_cons]
    unfold compGo
    rw [h1]
    have ih := compGo_filterA (t := t) (c := c) (F := F) (f := f) (g := g) (p := p) (env := env) (st := st) xs fun y hy => h y (List.mem_cons_of_mem _ hy)
    cases e : p x with
    | true => simp only [h2, h3, e, R.calm_ok, R.bind_ok, if_true, ih, List.filter_cons, List.map_cons]
    | false => simp only [h2, h3, e, R.calm_ok, R.bind_ok, if_false, ih, List.filter_cons, Bool.false_eq_true]
/-- enumerate, from k on -/
def enD {α : Type} (f : α → D) : Nat → List α → List D
  | _, [] => []
  | k, x :: xs => .tup [.int k, f x] :: enD f (k + 1) xs
theorem enD_eq {α : Type} (f : α → D) (k : Nat) (xs : List α) : enD f k xs = (xs.map f).mapIdx fun i x => .tup [.int ((k + i : Nat) : Int), x] := by
  induction xs generalizing k with
  | nil => rfl
  | cons x xs ih =>
    rw [enD, ih, List.map_cons, List.mapIdx_cons]
    simp only [Nat.add_zero, List.cons.injEq, true_and]
    congr 1
    funext i x
    rw [show k + 1 + i = k + (i + 1) by omega]
theorem enD_zero {α : Type} (f : α → D) (xs : List α) : ((xs.map f).mapIdx fun i x => D.tup [.int (i : Int), x]) = enD f 0 xs := by
  rw [enD_eq]; simp
theorem enD_get {α : Type} (f : α → D) : ∀ (xs : List α) (k j : Nat) (d : D), (enD f k xs)[j]? = some d → ∃ x, xs[j]? = some x ∧ d = .tup [.int ((k + j : Nat) : Int), f x]
  | [], _, _, _, h => by simp [enD] at h
  | x :: xs, k, 0, d, h => by
    simp [enD] at h
    exact ⟨x, rfl, by rw [← h]; simp⟩
  | x :: xs, k, j + 1, d, h => by
    simp [enD] at h
    obtain ⟨y, e1, e2⟩ := enD_get f xs (k + 1) j d h
    exact ⟨y, by simpa using e1, by rw [e2, show k + 1 + j = k + (j + 1) by omega]⟩
theorem enD_len {α : Type} (f : α → D) (xs : List α) (k : Nat) : (enD f k xs).length = xs.length := by
  rw [enD_eq]; simp
/-- a comprehension over what stands at other places than one -/
theorem compGo_skip {α : Type} {t : T} {c : Ev → Store → R Bool} {F : Ev → Store → R D} {f g : α → D} {env : Ev} {st : Store} {i : Nat} : ∀ (xs : List α) (k : Nat), (∀ m x, xs[m]? = some x → ∃ env', bindT t (.tup [.int ((k + m : Nat) : Int), f x]) env = some env' ∧ c env' st = .ok (decide (k + m ≠ i)) st ∧ F env' st = .ok (g x) st) →
    compGo t c F (enD f k xs) env st = .ok ((if k ≤ i then xs.eraseIdx (i - k) else xs).map g) st
  | [], k, _ => by simp [enD, compGo]
  | x :: xs, k, h => by
    obtain ⟨env', h1, h2, h3⟩ := h 0 x rfl
    rw [enD]
    unfold compGo
    rw [Nat.add_zero] at h1 h2
    rw [h1]
    have ih := compGo_skip (t := t) (c := c) (F := F) (f := f) (g := g) (env := env) (st := st) (i := i) xs (k + 1) fun m y hy => by
      have := h (m + 1) y (by simpa using hy)
      rw [show k + (m + 1) = k + 1 + m by omega] at this
      exact this
    simp only [h2, h3, R.calm_ok, R.bind_ok, ih]
    by_cases e : k = i
    · subst e
      simp [show ¬ (k + 1 ≤ k) by omega]
    · have e2 : decide (k ≠ i) = true := by simpa using e
      simp only [e2, if_true]
      by_cases l : k ≤ i
      · rw [if_pos l, if_pos (show k + 1 ≤ i by omega), show i - k = (i - (k + 1)) + 1 by omega, List.eraseIdx_cons_succ, List.map_cons]
      · rw [if_neg l, if_neg (show ¬ (k + 1 ≤ i) by omega), List.map_cons]
theorem evI_r1 (cl : CallT) (a : E) (env : Ev) (st : Store) : evI cl (.r1 a) env st = (evE cl a env st).bind fun x st => match x with
    | .int j => .of (rangeI 0 j 1) st
    | _ => .bad := by simp only [evI] <;> rfl
theorem evI_r2 (cl : CallT) (a b : E) (env : Ev) (st : Store) : evI cl (.r2 a b) env st = (evE cl a env st).bind fun x st => (evE cl b env st).bind fun y st => match x, y with
    | .int i, .int j => .of (rangeI i j 1) st
    | _, _ => .bad := by simp only [evI] <;> rfl
theorem evI_zip (cl : CallT) (a b : E) (env : Ev) (st : Store) : evI cl (.zip a b) env st = (evE cl a env st).bind fun x st => (evE cl b env st).bind fun y st => match x.items, y.items with
    | some xs, some ys => .ok (List.zipWith (fun x y => .tup [x, y]) xs ys) st
    | _, _ => .bad := by simp only [evI] <;> rfl
theorem evI_enum (cl : CallT) (a : E) (env : Ev) (st : Store) : evI cl (.enum a) env st = (evE cl a env st).bind fun x st => match x.items with
    | some xs => .ok (xs.mapIdx fun i x => .tup [.int i, x]) st
    | none => .bad := by simp only [evI] <;> rfl
/-! items -/
theorem idx_items {d : D} {ds : List D} (h : d.items = some ds) (i : Int) : idxD d (.int i) = (place ds.length i).bind (ds[·]?) := by
  cases d <;> simp [D.items] at h <;> subst h <;> rfl
theorem len_items {d : D} {ds : List D} (h : d.items = some ds) : bi1 .len d = some (.int ds.length) := by
  cases d <;> simp [D.items] at h <;> subst h <;> rfl
theorem itD_items {d : D} {ds : List D} (h : d.items = some ds) (st : Store) : itD d st = .ok ds st := by
  cases d <;> simp [D.items] at h <;> subst h <;> rfl
/-- a list of ints -/
def li (xs : List Int) : D := .lst (xs.map .int)
@[simp] theorem li_items (xs : List Int) : (li xs).items = some (xs.map .int) := rfl
@[simp] theorem tb_items (M : Mx) : (tb M).items = some (M.map ti) := rfl
@[simp] theorem tb_tuple (M : Mx) : isTys (tb M) [.tuple] = some true := rfl
@[simp] theorem tb_len (M : Mx) : bi1 .len (tb M) = some (.int M.length) := by simp [tb]
@[simp] theorem itD_tb (M : Mx) (st : Store) : itD (tb M) st = .ok (M.map ti) st := rfl
theorem slice_from1 {xs : List D} (h : 1 ≤ xs.length) : sliceD (.lst xs) (some 1) none = some (.lst (xs.drop 1)) := by
  have e : clampI xs.length 1 = 1 := by
    simp only [clampI]; rw [if_neg (by decide)]; simp; omega
  simp only [sliceD, sliceL, e]
  rw [List.take_of_length_le (by simp)]
theorem slice_to1 {xs : List D} (h : 1 ≤ xs.length) : sliceD (.lst xs) none (some 1) = some (.lst (xs.take 1)) := by
  have e : clampI xs.length 1 = 1 := by
    simp only [clampI]; rw [if_neg (by decide)]; simp; omega
  simp only [sliceD, sliceL, e]
  rfl
theorem of_all {α : Type} {f : α → D} {P : α → Prop} : ∀ {ds : List D}, (∀ d ∈ ds, ∃ x : α, d = f x ∧ P x) → ∃ xs : List α, ds = xs.map f ∧ ∀ x ∈ xs, P x
  | [], _ => ⟨[], rfl, by simp⟩
  | d :: ds, h => by
    obtain ⟨x, rfl, hx⟩ := h d (by simp)
    obtain ⟨xs, rfl, hs⟩ := of_all (ds := ds) fun e he => h e (by simp [he])
    exact ⟨x :: xs, rfl, by simpa using ⟨hx, hs⟩⟩
theorem eqDs_ints : ∀ (xs : List Int), eqDs (xs.map .int) (xs.map .int) = true
  | [] => rfl
  | x :: xs => by simp [eqDs, eqD, eqDs_ints xs]
theorem eqDs_rows : ∀ (M : Mx), eqDs (M.map ti) (M.map ti) = true
  | [] => rfl
  | x :: xs => by
    have e : eqD (ti x) (ti x) = true := by simp only [ti, eqD]; exact eqDs_ints x
    simp [eqDs, e, eqDs_rows xs]
theorem shal_tb (n : Nat) (M : Mx) : shal (n + 2) (tb M) = true := by
  simp only [tb, shal, List.all_map, List.all_eq_true]
  intro r _
  exact shal_ti n r
theorem ne_ti (v : List Int) : cmpop .ne (ti v) (ti v) = some false := by
  have e : eqD (ti v) (ti v) = true := by simp only [ti, eqD]; exact eqDs_ints v
  simp only [cmpop, shal_ti 11 v, e, Bool.and_self, if_true, Bool.not_true]
theorem ne_tb (M : Mx) : cmpop .ne (tb M) (tb M) = some false := by
  have e : eqD (tb M) (tb M) = true := by simp only [tb, eqD]; exact eqDs_rows M
  simp only [cmpop, shal_tb 10 M, e, Bool.and_self, if_true, Bool.not_true]
/-! bits -/
theorem bnd_mul {x y : Int} {a b : Nat} (hx : x.natAbs < 2 ^ a) (hy : y.natAbs < 2 ^ b) : (x * y).natAbs < 2 ^ (a + b) := by
  rw [Int.natAbs_mul, Nat.pow_add]
  exact Nat.mul_lt_mul_of_lt_of_le hx (Nat.le_of_lt hy) (Nat.pow_pos (by decide))
theorem bnd_add {x y : Int} {a : Nat} (hx : x.natAbs < 2 ^ a) (hy : y.natAbs < 2 ^ a) : (x + y).natAbs < 2 ^ (a + 1) := by
  have := Int.natAbs_add_le x y
  rw [Nat.pow_succ]; omega
theorem bnd_up {x : Int} {a b : Nat} (hx : x.natAbs < 2 ^ a) (h : a ≤ b) : x.natAbs < 2 ^ b := Nat.lt_of_lt_of_le hx (Nat.pow_le_pow_right (by decide) h)
theorem bnd_sum {a : Nat} : ∀ (xs : List Int), (∀ x ∈ xs, x.natAbs < 2 ^ a) → xs.sum.natAbs < 2 ^ (a + xs.length)
  | [], _ => by simpa using Nat.pow_pos (by decide)
  | x :: xs, h => by
    rw [List.sum_cons, List.length_cons, show a + (xs.length + 1) = (a + xs.length) + 1 by omega]
    exact bnd_add (bnd_up (h x (by simp)) (by omega)) (bnd_sum xs fun y hy => h y (by simp [hy]))
def Bv (b : Nat) (v : List Int) : Prop := ∀ x ∈ v, x.natAbs < 2 ^ b
def Bm (b : Nat) (M : Mx) : Prop := ∀ r ∈ M, Bv b r
theorem Bv.up {a b : Nat} {v : List Int} (h : Bv a v) (l : a ≤ b) : Bv b v := fun x hx => bnd_up (h x hx) l
theorem Bm.up {a b : Nat} {M : Mx} (h : Bm a M) (l : a ≤ b) : Bm b M := fun r hr => (h r hr).up l
theorem Bv.get {b : Nat} {v : List Int} (h : Bv b v) (j : Nat) : (v.getD j 0).natAbs < 2 ^ b := by
  rw [List.getD_eq_getElem?_getD]
  cases e : v[j]? with
  | none => simpa using Nat.pow_pos (by decide)
  | some x => exact h x (List.mem_of_getElem? e)
theorem bnd_dot {a b : Nat} {xs ys : List Int} (hx : Bv a xs) (hy : Bv b ys) : (dot xs ys).natAbs < 2 ^ (a + b + xs.length) := by
  refine bnd_up (bnd_sum (a := a + b) _ fun z hz => ?_) (by simp; omega)
  obtain ⟨i, hi, rfl⟩ := List.mem_iff_getElem.mp hz
  rw [List.getElem_zipWith]
  exact bnd_mul (hx _ (List.getElem_mem _)) (hy _ (List.getElem_mem _))
theorem Bm.led {a b n : Nat} {M : Mx} {v : List Int} (s : Sq n M) (h : Bm a M) (hv : Bv b v) : Bv (a + b + n) (ledM M v) := by
  intro x hx
  obtain ⟨r, hr, rfl⟩ := List.mem_map.mp hx
  have := bnd_dot (h r hr) hv
  rw [s.r r hr] at this
  exact this
theorem Bm.col {b : Nat} {M : Mx} (h : Bm b M) (j : Nat) : Bv b (colM M j) := by
  intro x hx
  obtain ⟨r, hr, rfl⟩ := List.mem_map.mp hx
  exact (h r hr).get j
theorem Bm.mul {a b n : Nat} {A B : Mx} (s : Sq n A) (ha : Bm a A) (hb : Bm b B) : Bm (a + b + n) (mulM A B) := by
  intro r hr x hx
  obtain ⟨i, _, rfl⟩ := List.mem_map.mp hr
  obtain ⟨j, _, rfl⟩ := List.mem_map.mp hx
  exact (ha.led s (hb.col j)).get i
theorem Sq.less {k : Nat} {M : Mx} (s : Sq (k + 1) M) {i j : Nat} (hi : i < k + 1) (hj : j < k + 1) : Sq k (lessM M i j) := by
  refine ⟨by simp [lessM, List.length_eraseIdx, s.l, hi], ?_⟩
  intro r hr
  obtain ⟨q, hq, rfl⟩ := List.mem_map.mp hr
  have := s.r q (List.mem_of_mem_eraseIdx hq)
  simp [List.length_eraseIdx, this, hj]
theorem Bm.less {b : Nat} {M : Mx} (h : Bm b M) (i j : Nat) : Bm b (lessM M i j) := by
  intro r hr x hx
  obtain ⟨q, hq, rfl⟩ := List.mem_map.mp hr
  exact h q (List.mem_of_mem_eraseIdx hq) x (List.mem_of_mem_eraseIdx hx)
theorem Bm.row {b : Nat} {M : Mx} (h : Bm b M) (i : Nat) : Bv b (M.getD i []) := by
  rw [List.getD_eq_getElem?_getD]
  cases e : M[i]? with
  | none => intro x hx; simp at hx
  | some r => exact h r (List.mem_of_getElem? e)
theorem bnd_sgn (c : Nat) : (sgn c).natAbs < 2 ^ 1 := by
  unfold sgn; split <;> decide
theorem bnd_det {b : Nat} : ∀ (k : Nat) (M : Mx), k ≤ 4 → Bm b M → (detM k M).natAbs < 2 ^ (k * (b + 6))
  | 0, _, _, _ => by simp [detM]
  | 1, M, _, h => by
    show ((M.getD 0 []).getD 0 0).natAbs < _
    exact bnd_up ((h.row 0).get 0) (by omega)
  | k + 2, M, hk, h => by
    have : detM (k + 2) M = ((List.range (k + 2)).map fun c => (M.getD 0 []).getD c 0 * detM (k + 1) (lessM M 0 c) * sgn c).sum := rfl
    rw [this]
    refine bnd_up (bnd_sum (a := b + (k + 1) * (b + 6) + 1) _ fun z hz => ?_) ?_
    · obtain ⟨c, _, rfl⟩ := List.mem_map.mp hz
      exact bnd_mul (bnd_mul ((h.row 0).get c) (bnd_det (k + 1) _ (by omega) (h.less 0 c))) (bnd_sgn c)
    · rw [List.length_map, List.length_range, show (k + 2) * (b + 6) = (k + 1) * (b + 6) + (b + 6) by rw [← Nat.succ_mul]]
      omega
theorem Bm.back {b n : Nat} (hn : n ≤ 4) {M : Mx} (h : Bm b M) : Bm (8 * (b + 6)) (backM n M) := by
  intro r hr x hx
  obtain ⟨i, _, rfl⟩ := List.mem_map.mp hr
  obtain ⟨j, _, rfl⟩ := List.mem_map.mp hx
  have h1 := bnd_det n M hn h
  have h2 := bnd_det (n - 1) (lessM M j i) (by omega) (h.less j i)
  refine bnd_up (bnd_mul (bnd_mul (bnd_sgn _) h1) h2) ?_
  have e1 : n * (b + 6) ≤ 4 * (b + 6) := Nat.mul_le_mul_right _ hn
  have e2 : (n - 1) * (b + 6) ≤ 3 * (b + 6) := Nat.mul_le_mul_right _ (by omega)
  omega
theorem sgn_eq (c : Nat) : (1 : Int) - 2 * (c : Int).fmod 2 = sgn c := by
  rw [Int.fmod_eq_emod_of_nonneg _ (by decide)]
  unfold sgn
  split <;> omega
end DD

set_option Elab.async false
set_option linter.all false
set_option maxRecDepth 100000
set_option maxHeartbeats 1000000
/-! plain lemmas about steps and runs: no program in sight -/
namespace DD
open PySem (Str)
inductive Rul where
  | all | least | next | turn
deriving DecidableEq
def Rul.s : Rul → Str
  | .all => PySem.Str.ofString "all"
  | .least => PySem.Str.ofString "least"
  | .next => PySem.Str.ofString "next"
  | .turn => PySem.Str.ofString "turn"
structure Lot (b : Nat) (xs : List Int) : Prop where
  l2 : 2 ≤ xs.length
  l4 : xs.length ≤ 4
  nn : ∀ x ∈ xs, 0 ≤ x
  ps : ∃ x ∈ xs, 0 < x
  sm : ∀ x ∈ xs, x < 2 ^ b
theorem Lot.bv {b : Nat} {xs : List Int} (h : Lot b xs) : Bv b xs := by
  intro x hx
  have h1 := h.nn x hx
  have h2 := h.sm x hx
  have : (x.natAbs : Int) < ((2 ^ b : Nat) : Int) := by
    rw [Int.natAbs_of_nonneg h1]; push_cast; exact h2
  exact Int.ofNat_lt.mp this
/-- the number at a place -/
def nth (xs : List Int) (i : Nat) : Int := xs.getD i 0
theorem nth_mem {xs : List Int} {i : Nat} (h : i < xs.length) : nth xs i ∈ xs := by
  rw [nth, List.getD_eq_getElem?_getD, List.getElem?_eq_getElem h]; exact List.getElem_mem h
theorem nth_eq {xs : List Int} {i : Nat} (h : i < xs.length) : xs[i] = nth xs i := by
  rw [nth, List.getD_eq_getElem?_getD, List.getElem?_eq_getElem h]; rfl
theorem mem_nth {xs : List Int} {x : Int} (h : x ∈ xs) : ∃ i, i < xs.length ∧ nth xs i = x := by
  obtain ⟨i, hi, e⟩ := List.mem_iff_getElem.mp h
  exact ⟨i, hi, by rw [← nth_eq hi, e]⟩
def ended (xs : List Int) : Bool := (xs.filter fun x => decide (x > 0)).length == 1
/-- two places with numbers above 0 -/
theorem two_pos {xs : List Int} (hp : ∃ x ∈ xs, 0 < x) (he : ended xs = false) (t : Nat) (ht : t < xs.length) : ∃ i, i < xs.length ∧ i ≠ t ∧ 0 < nth xs i := by
  refine Classical.byContradiction fun hn => ?_
  have hall : ∀ i, i < xs.length → i ≠ t → nth xs i ≤ 0 := fun i hi hit => by
    refine Classical.byContradiction fun h => hn ⟨i, hi, hit, by omega⟩
  obtain ⟨x, hx, hx0⟩ := hp
  obtain ⟨i, hi, rfl⟩ := mem_nth hx
  have hit : i = t := Classical.byContradiction fun h => by have := hall i hi h; omega
  subst hit
  have e1 : xs = xs.take i ++ nth xs i :: xs.drop (i + 1) := by
    rw [← nth_eq hi]; simp
  have z1 : ∀ y ∈ xs.take i, ¬ (y > 0) := fun y hy => by
    obtain ⟨j, hj, rfl⟩ := List.mem_iff_getElem.mp hy
    rw [List.length_take] at hj
    rw [List.getElem_take, nth_eq (by omega)]
    have := hall j (by omega) (by omega); omega
  have z2 : ∀ y ∈ xs.drop (i + 1), ¬ (y > 0) := fun y hy => by
    obtain ⟨j, hj, rfl⟩ := List.mem_iff_getElem.mp hy
    rw [List.length_drop] at hj
    rw [List.getElem_drop, nth_eq (by omega)]
    have := hall (i + 1 + j) (by omega) (by omega); omega
  have f1 : (xs.take i).filter (fun x => decide (x > 0)) = [] := List.filter_eq_nil_iff.mpr fun y hy => by simpa using z1 y hy
  have f2 : (xs.drop (i + 1)).filter (fun x => decide (x > 0)) = [] := List.filter_eq_nil_iff.mpr fun y hy => by simpa using z2 y hy
  have : ended xs = true := by
    unfold ended
    rw [e1, List.filter_append, List.filter_cons, f1, f2, if_pos (by simpa using hx0)]
    rfl
  rw [this] at he; cases he
/-- the first place of a number, but for one place -/
def atP (xs : List Int) (v b : Int) : List Nat := (List.range xs.length).filter fun (i : Nat) => decide (nth xs i = v) && decide ((i : Int) ≠ b)
def plc (xs : List Int) (v b : Int) : Nat := (atP xs v b).headD 0
theorem plc_ok {xs : List Int} {v b : Int} (h : ∃ i, i < xs.length ∧ nth xs i = v ∧ (i : Int) ≠ b) : (atP xs v b)[0]? = some (plc xs v b) ∧ plc xs v b < xs.length ∧ nth xs (plc xs v b) = v ∧ ((plc xs v b : Nat) : Int) ≠ b := by
  obtain ⟨i, h1, h2, h3⟩ := h
  have hm : i ∈ atP xs v b := by
    unfold atP
    rw [List.mem_filter]
    exact ⟨List.mem_range.mpr h1, by simp [h2, h3]⟩
  unfold plc
  rcases e : atP xs v b with _ | ⟨j, js⟩
  · rw [e] at hm; cases hm
  · have hj : j ∈ atP xs v b := by rw [e]; simp
    unfold atP at hj
    rw [List.mem_filter] at hj
    have := hj.2
    simp at this
    exact ⟨rfl, List.mem_range.mp hj.1, this.1, this.2⟩
theorem foldl_min_le' : ∀ (xs : List Int) (a : Int), xs.foldl min a ≤ a ∧ ∀ x ∈ xs, xs.foldl min a ≤ x
  | [], a => ⟨Int.le_refl _, by simp⟩
  | y :: ys, a => by
    obtain ⟨h1, h2⟩ := foldl_min_le' ys (min a y)
    refine ⟨Int.le_trans h1 (Int.min_le_left a y), fun x hx => ?_⟩
    rcases List.mem_cons.mp hx with rfl | hx
    · exact Int.le_trans h1 (Int.min_le_right a x)
    · exact h2 x hx
theorem foldl_min_in : ∀ (xs : List Int) (a : Int), xs.foldl min a = a ∨ xs.foldl min a ∈ xs
  | [], a => .inl rfl
  | y :: ys, a => by
    rcases foldl_min_in ys (min a y) with h | h
    · rw [List.foldl_cons, h]
      rcases Int.le_total a y with k | k
      · exact .inl (Int.min_eq_left k)
      · right; rw [Int.min_eq_right k]; simp
    · exact .inr (by simp [h])
theorem foldl_max_in : ∀ (xs : List Int) (a : Int), xs.foldl max a = a ∨ xs.foldl max a ∈ xs
  | [], a => .inl rfl
  | y :: ys, a => by
    rcases foldl_max_in ys (max a y) with h | h
    · rw [List.foldl_cons, h]
      rcases Int.le_total a y with k | k
      · right; rw [Int.max_eq_right k]; simp
      · exact .inl (Int.max_eq_left k)
    · exact .inr (by simp [h])
theorem minI_ok {xs : List Int} (h : xs ≠ []) : ∃ m, minI xs = some m ∧ m ∈ xs ∧ ∀ x ∈ xs, m ≤ x := by
  cases xs with
  | nil => exact absurd rfl h
  | cons y ys =>
    obtain ⟨h1, h2⟩ := foldl_min_le' ys y
    refine ⟨_, rfl, ?_, fun x hx => ?_⟩
    · rcases foldl_min_in ys y with e | e
      · rw [e]; simp
      · simp [e]
    · rcases List.mem_cons.mp hx with rfl | hx
      · exact h1
      · exact h2 x hx
theorem maxI_ok {xs : List Int} (h : xs ≠ []) : ∃ m, maxI xs = some m ∧ m ∈ xs ∧ ∀ x ∈ xs, x ≤ m := by
  cases xs with
  | nil => exact absurd rfl h
  | cons y ys =>
    refine ⟨_, rfl, ?_, fun x hx => ?_⟩
    · rcases foldl_max_in ys y with e | e
      · rw [e]; simp
      · simp [e]
    · rcases List.mem_cons.mp hx with rfl | hx
      · exact le_foldl_max ys x
      · exact mem_foldl_max ys y x hx
def mn (xs : List Int) : Int := (minI xs).getD 0
def mx (xs : List Int) : Int := (maxI xs).getD 0
def top (xs : List Int) : Nat := plc xs (mx xs) (-1)
def oths (xs : List Int) : List Int := ((List.range xs.length).filter fun (i : Nat) => decide ((i : Int) ≠ (top xs : Int)) && decide (nth xs i > 0)).map (nth xs)
def byP : Rul → List Int → Nat
  | .turn, _ => 0
  | .all, xs => plc xs (mn (xs.filter fun x => decide (x > 0))) (-1)
  | .next, xs => plc xs (mx (oths xs)) (top xs)
  | .least, xs => plc xs (mn (oths xs)) (top xs)
def gone (r : Rul) (xs : List Int) : List Nat := match r with
  | .turn => (List.range xs.length).filter fun (i : Nat) => decide ((i : Int) ≠ (byP .turn xs : Int)) && decide (nth xs (byP .turn xs) > 0)
  | .all => (List.range xs.length).filter fun (i : Nat) => decide ((i : Int) ≠ (byP .all xs : Int)) && decide (nth xs (byP .all xs) > 0)
  | _ => [top xs]
theorem filt_ne {xs : List Int} (h : ∃ x ∈ xs, 0 < x) : (xs.filter fun x => decide (x > 0)) ≠ [] := by
  obtain ⟨x, hx, h0⟩ := h
  intro e
  have : x ∈ xs.filter fun x => decide (x > 0) := List.mem_filter.mpr ⟨hx, by simpa using h0⟩
  rw [e] at this; cases this
theorem top_ok {b : Nat} {xs : List Int} (h : Lot b xs) : ∃ m, maxI xs = some m ∧ m = mx xs ∧ (atP xs (mx xs) (-1))[0]? = some (top xs) ∧ top xs < xs.length ∧ nth xs (top xs) = mx xs ∧ ∀ x ∈ xs, x ≤ mx xs := by
  obtain ⟨m, e, hm, hle⟩ := maxI_ok (xs := xs) (by intro z; have := h.l2; rw [z] at this; simp at this)
  have em : mx xs = m := by simp [mx, e]
  obtain ⟨i, hi, ei⟩ := mem_nth hm
  obtain ⟨q1, q2, q3, _⟩ := plc_ok (xs := xs) (v := mx xs) (b := -1) ⟨i, hi, by rw [ei, em], by omega⟩
  exact ⟨m, e, em.symm, q1, q2, q3, by rw [em]; exact hle⟩
theorem oths_ok {b : Nat} {xs : List Int} (h : Lot b xs) (he : ended xs = false) : oths xs ≠ [] ∧ ∀ v ∈ oths xs, 0 < v ∧ ∃ i, i < xs.length ∧ nth xs i = v ∧ (i : Int) ≠ (top xs : Int) := by
  obtain ⟨m, _, _, _, t1, t2, t3⟩ := top_ok h
  constructor
  · obtain ⟨i, hi, hit, h0⟩ := two_pos h.ps he (top xs) t1
    intro e
    have : nth xs i ∈ oths xs := List.mem_map.mpr ⟨i, List.mem_filter.mpr ⟨List.mem_range.mpr hi, by simp; exact ⟨by omega, h0⟩⟩, rfl⟩
    rw [e] at this; cases this
  · intro v hv
    obtain ⟨i, hi, rfl⟩ := List.mem_map.mp hv
    rw [List.mem_filter] at hi
    have := hi.2
    simp at this
    exact ⟨this.2, i, List.mem_range.mp hi.1, rfl, by omega⟩
/-- the place that divides -/
theorem by_all {b : Nat} {xs : List Int} (h : Lot b xs) : (∃ m, minI (xs.filter fun x => decide (x > 0)) = some m ∧ m = mn (xs.filter fun x => decide (x > 0))) ∧ (atP xs (mn (xs.filter fun x => decide (x > 0))) (-1))[0]? = some (byP .all xs) ∧ byP .all xs < xs.length ∧ 0 < nth xs (byP .all xs) ∧ ∀ i, i < xs.length → 0 < nth xs i → nth xs (byP .all xs) ≤ nth xs i := by
  obtain ⟨m, e, hm, hle⟩ := minI_ok (filt_ne h.ps)
  have em : mn (xs.filter fun x => decide (x > 0)) = m := by simp [mn, e]
  have hm' := List.mem_filter.mp hm
  have h0 : 0 < m := by simpa using hm'.2
  obtain ⟨i, hi, ei⟩ := mem_nth hm'.1
  obtain ⟨q1, q2, q3, _⟩ := plc_ok (xs := xs) (v := m) (b := -1) ⟨i, hi, ei, by omega⟩
  refine ⟨⟨m, e, em.symm⟩, ?_⟩
  simp only [byP]
  rw [em]
  refine ⟨q1, q2, by rw [q3]; exact h0, fun j hj hj0 => ?_⟩
  rw [q3]
  exact hle _ (List.mem_filter.mpr ⟨nth_mem hj, by simpa using hj0⟩)
theorem by_next {b : Nat} {xs : List Int} (h : Lot b xs) (he : ended xs = false) : (∃ m, maxI (oths xs) = some m ∧ m = mx (oths xs)) ∧ (atP xs (mx (oths xs)) (top xs))[0]? = some (byP .next xs) ∧ byP .next xs < xs.length ∧ 0 < nth xs (byP .next xs) ∧ byP .next xs ≠ top xs := by
  obtain ⟨h1, h2⟩ := oths_ok h he
  obtain ⟨m, e, hm, hle⟩ := maxI_ok h1
  have em : mx (oths xs) = m := by simp [mx, e]
  obtain ⟨h0, i, hi, ei, hit⟩ := h2 m hm
  obtain ⟨q1, q2, q3, q4⟩ := plc_ok (xs := xs) (v := m) (b := top xs) ⟨i, hi, ei, hit⟩
  refine ⟨⟨m, e, em.symm⟩, ?_⟩
  simp only [byP]
  rw [em]
  exact ⟨q1, q2, by rw [q3]; exact h0, by omega⟩
theorem by_least {b : Nat} {xs : List Int} (h : Lot b xs) (he : ended xs = false) : (∃ m, minI (oths xs) = some m ∧ m = mn (oths xs)) ∧ (atP xs (mn (oths xs)) (top xs))[0]? = some (byP .least xs) ∧ byP .least xs < xs.length ∧ 0 < nth xs (byP .least xs) ∧ byP .least xs ≠ top xs := by
  obtain ⟨h1, h2⟩ := oths_ok h he
  obtain ⟨m, e, hm, hle⟩ := minI_ok h1
  have em : mn (oths xs) = m := by simp [mn, e]
  obtain ⟨h0, i, hi, ei, hit⟩ := h2 m hm
  obtain ⟨q1, q2, q3, q4⟩ := plc_ok (xs := xs) (v := m) (b := top xs) ⟨i, hi, ei, hit⟩
  refine ⟨⟨m, e, em.symm⟩, ?_⟩
  simp only [byP]
  rw [em]
  exact ⟨q1, q2, by rw [q3]; exact h0, by omega⟩
/-- what divides, what is divided -/
structure Sh (xs : List Int) (b : Nat) (gs : List Nat) : Prop where
  hb : b < xs.length
  g : ∀ a ∈ gs, a < xs.length ∧ a ≠ b ∧ 0 < nth xs b
theorem sh_of {b : Nat} {xs : List Int} (h : Lot b xs) (he : ended xs = false) (r : Rul) : Sh xs (byP r xs) (gone r xs) := by
  have l2 := h.l2
  cases r with
  | turn =>
    refine ⟨by simp only [byP]; omega, fun a ha => ?_⟩
    simp only [gone, List.mem_filter, List.mem_range, Bool.and_eq_true, decide_eq_true_eq] at ha
    exact ⟨ha.1, by omega, ha.2.2⟩
  | all =>
    obtain ⟨_, _, q1, q2, _⟩ := by_all h
    refine ⟨q1, fun a ha => ?_⟩
    simp only [gone, List.mem_filter, List.mem_range, Bool.and_eq_true, decide_eq_true_eq] at ha
    exact ⟨ha.1, by omega, ha.2.2⟩
  | next =>
    obtain ⟨_, _, q1, q2, q3⟩ := by_next h he
    obtain ⟨m, _, _, _, t1, t2, t3⟩ := top_ok h
    refine ⟨q1, fun a ha => ?_⟩
    simp only [gone, List.mem_singleton] at ha
    subst ha
    exact ⟨t1, by omega, q2⟩
  | least =>
    obtain ⟨_, _, q1, q2, q3⟩ := by_least h he
    obtain ⟨m, _, _, _, t1, t2, t3⟩ := top_ok h
    refine ⟨q1, fun a ha => ?_⟩
    simp only [gone, List.mem_singleton] at ha
    subst ha
    exact ⟨t1, by omega, q2⟩
/-! the lot behind, the table -/
def lat (xs : List Int) (b : Nat) (gs : List Nat) : List Int := (List.range xs.length).map fun a => if a ∈ gs then (nth xs a).fmod (nth xs b) else nth xs a
def tab (xs : List Int) (b : Nat) (gs : List Nat) : Mx := (List.range xs.length).map fun a => (List.range xs.length).map fun j => if a = j then 1 else if j = b ∧ a ∈ gs then (nth xs a).fdiv (nth xs b) else 0
def rot {α : Type} (xs : List α) : List α := xs.drop 1 ++ xs.take 1
def stepL (r : Rul) (xs : List Int) : List Int := if r = .turn then rot (lat xs (byP r xs) (gone r xs)) else lat xs (byP r xs) (gone r xs)
def stepT (r : Rul) (xs : List Int) : Mx := if r = .turn then (tab xs (byP r xs) (gone r xs)).map rot else tab xs (byP r xs) (gone r xs)
end DD

set_option Elab.async false
set_option linter.all false
set_option maxRecDepth 100000
set_option maxHeartbeats 1000000
namespace DD
open PySem (Str)
/-! sums over places -/
theorem sum_single (a : Nat) (h : Nat → Int) : ∀ n, ((List.range n).map fun j => if j = a then h j else 0).sum = if a < n then h a else 0
  | 0 => by simp
  | n + 1 => by
    rw [List.range_succ, List.map_append, List.sum_append, sum_single a h n]
    simp only [List.map_cons, List.map_nil, List.sum_cons, List.sum_nil, Int.add_zero]
    by_cases e : n = a
    · subst e; simp
    · rw [if_neg e]
      by_cases l : a < n
      · rw [if_pos l, if_pos (by omega)]; simp
      · rw [if_neg l, if_neg (by omega)]; simp
theorem sum_add (f g : Nat → Int) : ∀ xs : List Nat, (xs.map fun j => f j + g j).sum = (xs.map f).sum + (xs.map g).sum
  | [] => rfl
  | x :: xs => by
    simp only [List.map_cons, List.sum_cons, sum_add f g xs]; omega
theorem dot_range (f g : Nat → Int) (n : Nat) : dot ((List.range n).map f) ((List.range n).map g) = ((List.range n).map fun j => f j * g j).sum := by
  unfold dot
  rw [List.zipWith_map, List.zipWith_self]
theorem dot_append (xs ys : List Int) (x y : Int) (h : xs.length = ys.length) : dot (xs ++ [x]) (ys ++ [y]) = dot xs ys + x * y := by
  unfold dot
  rw [List.zipWith_append h]
  simp
theorem dot_rot (xs ys : List Int) (h : xs.length = ys.length) : dot (rot xs) (rot ys) = dot xs ys := by
  cases xs with
  | nil => cases ys with
    | nil => rfl
    | cons y ys => simp at h
  | cons x xs => cases ys with
    | nil => simp at h
    | cons y ys =>
      simp only [rot, List.drop_succ_cons, List.drop_zero, List.take_succ_cons, List.take_zero]
      rw [dot_append _ _ _ _ (by simpa using h)]
      simp only [dot, List.zipWith_cons_cons, List.sum_cons]
      omega
theorem rot_length {α : Type} (xs : List α) : (rot xs).length = xs.length := by
  simp [rot]; omega
theorem rot_mem {α : Type} {xs : List α} {x : α} : x ∈ rot xs ↔ x ∈ xs := by
  unfold rot
  rw [List.mem_append]
  constructor
  · rintro (h | h)
    · exact List.mem_of_mem_drop h
    · exact List.mem_of_mem_take h
  · intro h
    rw [← List.take_append_drop 1 xs] at h
    rcases List.mem_append.mp h with h | h
    · exact .inr h
    · exact .inl h
theorem lat_length (xs : List Int) (b : Nat) (gs : List Nat) : (lat xs b gs).length = xs.length := by simp [lat]
theorem lat_nth {xs : List Int} {b : Nat} {gs : List Nat} {a : Nat} (h : a < xs.length) : nth (lat xs b gs) a = if a ∈ gs then (nth xs a).fmod (nth xs b) else nth xs a := by
  rw [nth, lat, List.getD_eq_getElem?_getD, List.getElem?_map, List.getElem?_range h]; rfl
theorem tab_sq (xs : List Int) (b : Nat) (gs : List Nat) : Sq xs.length (tab xs b gs) := by
  refine ⟨by simp [tab], ?_⟩
  intro r hr
  obtain ⟨i, _, rfl⟩ := List.mem_map.mp hr
  simp
theorem fdm (a b : Int) : b.fmod a + b.fdiv a * a = b := by
  have := Int.fmod_add_fdiv_mul b a
  exact this
theorem tab_led {xs : List Int} {b : Nat} {gs : List Nat} (s : Sh xs b gs) : ledM (tab xs b gs) (lat xs b gs) = xs := by
  have hb : b ∉ gs := fun z => (s.g b z).2.1 rfl
  apply List.ext_getElem
  · simp [ledM, tab]
  · intro a h1 h2
    simp only [ledM, tab, List.map_map, List.getElem_map, Function.comp_def, List.getElem_range]
    rw [lat, dot_range]
    have e : ∀ j, (if a = j then (1 : Int) else if j = b ∧ a ∈ gs then (nth xs a).fdiv (nth xs b) else 0) * (if j ∈ gs then (nth xs j).fmod (nth xs b) else nth xs j) =
        (if j = a then (if j ∈ gs then (nth xs j).fmod (nth xs b) else nth xs j) else 0) + (if j = b then (if a ∈ gs then (nth xs a).fdiv (nth xs b) * nth xs j else 0) else 0) := by
      intro j
      by_cases h3 : a = j
      · subst h3
        rw [if_pos rfl, if_pos rfl, Int.one_mul]
        by_cases h4 : a = b
        · subst h4
          rw [if_pos rfl, if_neg hb, if_neg hb]; omega
        · rw [if_neg h4]; omega
      · rw [if_neg h3, if_neg (Ne.symm h3)]
        by_cases h4 : j = b
        · subst h4
          by_cases h5 : a ∈ gs
          · rw [if_pos ⟨rfl, h5⟩, if_neg hb, if_pos rfl, if_pos h5]; omega
          · rw [if_neg (fun z => h5 z.2), if_pos rfl, if_neg h5]; simp
        · rw [if_neg (fun z => h4 z.1), if_neg h4]; simp
    simp only [e]
    rw [sum_add, sum_single a (fun j => if j ∈ gs then (nth xs j).fmod (nth xs b) else nth xs j), sum_single b (fun j => if a ∈ gs then (nth xs a).fdiv (nth xs b) * nth xs j else 0), if_pos h2, if_pos s.hb, nth_eq h2]
    by_cases h5 : a ∈ gs
    · rw [if_pos h5, if_pos h5]; exact fdm _ _
    · rw [if_neg h5, if_neg h5]; omega
/-- a table of a step, by what it has -/
def tabq (n b : Nat) (q : Nat → Int) : Mx := (List.range n).map fun a => (List.range n).map fun j => if a = j then 1 else if j = b then q a else 0
theorem tab_q {xs : List Int} {b : Nat} {gs : List Nat} : tab xs b gs = tabq xs.length b fun a => if a ∈ gs then (nth xs a).fdiv (nth xs b) else 0 := by
  unfold tab tabq
  refine List.map_congr_left fun a _ => List.map_congr_left fun j _ => ?_
  by_cases h : a = j
  · rw [if_pos h, if_pos h]
  · rw [if_neg h, if_neg h]
    by_cases h2 : j = b
    · by_cases h3 : a ∈ gs
      · rw [if_pos ⟨h2, h3⟩, if_pos h2]; exact (if_pos h3).symm
      · rw [if_neg (fun z => h3 z.2), if_pos h2]; exact (if_neg h3).symm
    · rw [if_neg (fun z => h2 z.1), if_neg h2]
theorem tabq_det {n b : Nat} (h2 : 2 ≤ n) (h4 : n ≤ 4) (hb : b < n) (q : Nat → Int) : detM n (tabq n b q) = 1 := by
  rcases (show n = 2 ∨ n = 3 ∨ n = 4 by omega) with rfl | rfl | rfl
  · rcases (show b = 0 ∨ b = 1 by omega) with rfl | rfl <;> simp [tabq, rg2, d2]
  · rcases (show b = 0 ∨ b = 1 ∨ b = 2 by omega) with rfl | rfl | rfl <;> simp [tabq, rg3, d3]
  · rcases (show b = 0 ∨ b = 1 ∨ b = 2 ∨ b = 3 by omega) with rfl | rfl | rfl | rfl <;> simp [tabq, rg4, d4, d3]
theorem tabq_rot {n : Nat} (h2 : 2 ≤ n) (h4 : n ≤ 4) (q : Nat → Int) : detM n ((tabq n 0 q).map rot) = 1 ∨ detM n ((tabq n 0 q).map rot) = -1 := by
  rcases (show n = 2 ∨ n = 3 ∨ n = 4 by omega) with rfl | rfl | rfl
  · right; simp [tabq, rg2, rot, d2]
  · left; simp [tabq, rg3, rot, d3]
  · right; simp [tabq, rg4, rot, d4, d3]
theorem sq_rot {n : Nat} {M : Mx} (s : Sq n M) : Sq n (M.map rot) := by
  refine ⟨by simp [s.l], ?_⟩
  intro r hr
  obtain ⟨q, hq, rfl⟩ := List.mem_map.mp hr
  rw [rot_length, s.r q hq]
theorem led_rot {n : Nat} {M : Mx} (s : Sq n M) {v : List Int} (hv : v.length = n) : ledM (M.map rot) (rot v) = ledM M v := by
  simp only [ledM, List.map_map]
  refine List.map_congr_left fun r hr => ?_
  exact dot_rot r v (by rw [s.r r hr, hv])
/-- the step's table is fair, times the lot behind it is the lot -/
theorem step_fair {b : Nat} {xs : List Int} (h : Lot b xs) (he : ended xs = false) (r : Rul) : Fair xs.length (stepT r xs) := by
  have s := sh_of h he r
  unfold stepT
  split
  · rename_i e; subst e
    refine ⟨sq_rot (tab_sq _ _ _), ?_⟩
    rw [tab_q]
    exact tabq_rot h.l2 h.l4 _
  · exact ⟨tab_sq _ _ _, .inl (by rw [tab_q]; exact tabq_det h.l2 h.l4 s.hb _)⟩
theorem step_led {b : Nat} {xs : List Int} (h : Lot b xs) (he : ended xs = false) (r : Rul) : ledM (stepT r xs) (stepL r xs) = xs := by
  have s := sh_of h he r
  unfold stepT stepL
  split
  · rw [led_rot (tab_sq _ _ _) (lat_length _ _ _)]; exact tab_led s
  · exact tab_led s
theorem step_length (r : Rul) (xs : List Int) : (stepL r xs).length = xs.length := by
  unfold stepL
  split
  · rw [rot_length, lat_length]
  · exact lat_length _ _ _
theorem fmod_bd {a b : Int} (ha : 0 ≤ a) (hb : 0 < b) : 0 ≤ a.fmod b ∧ a.fmod b ≤ a ∧ a.fmod b < b := by
  refine ⟨Int.fmod_nonneg_of_pos _ hb, ?_, Int.fmod_lt_of_pos _ hb⟩
  have := fdm b a
  have h2 : 0 ≤ a.fdiv b := Int.fdiv_nonneg ha (by omega)
  have h3 : 0 ≤ a.fdiv b * b := Int.mul_nonneg h2 (by omega)
  omega
theorem fmod_half {a b : Int} (hb : 0 < b) (hab : b ≤ a) : 2 * a.fmod b < a := by
  obtain ⟨h1, h2, h3⟩ := fmod_bd (a := a) (b := b) (by omega) hb
  have := fdm b a
  have h4 : 1 ≤ a.fdiv b := by
    rw [Int.fdiv_eq_ediv_of_nonneg _ (by omega)]
    exact (Int.le_ediv_iff_mul_le hb).mpr (by omega)
  have h5 : 1 * b ≤ a.fdiv b * b := Int.mul_le_mul_of_nonneg_right h4 (by omega)
  omega
theorem lat_lot {b : Nat} {xs : List Int} (h : Lot b xs) {c : Nat} {gs : List Nat} (s : Sh xs c gs) : Lot b (lat xs c gs) := by
  have key : ∀ a, a < xs.length → 0 ≤ nth (lat xs c gs) a ∧ nth (lat xs c gs) a ≤ nth xs a := by
    intro a ha
    rw [lat_nth ha]
    have h0 := h.nn _ (nth_mem ha)
    split
    · rename_i hg
      obtain ⟨f1, f2, f3⟩ := fmod_bd h0 (s.g a hg).2.2
      exact ⟨f1, f2⟩
    · exact ⟨h0, Int.le_refl _⟩
  refine ⟨by rw [lat_length]; exact h.l2, by rw [lat_length]; exact h.l4, fun x hx => ?_, ?_, fun x hx => ?_⟩
  · obtain ⟨a, ha, rfl⟩ := mem_nth hx
    rw [lat_length] at ha
    exact (key a ha).1
  · rcases gs with _ | ⟨g, gs⟩
    · obtain ⟨x, hx, h0⟩ := h.ps
      obtain ⟨a, ha, rfl⟩ := mem_nth hx
      refine ⟨nth (lat xs c []) a, nth_mem (by rw [lat_length]; exact ha), ?_⟩
      rw [lat_nth ha, if_neg (by simp)]; exact h0
    · refine ⟨nth (lat xs c (g :: gs)) c, nth_mem (by rw [lat_length]; exact s.hb), ?_⟩
      rw [lat_nth s.hb, if_neg (fun z => (s.g c z).2.1 rfl)]
      exact (s.g g (by simp)).2.2
  · obtain ⟨a, ha, rfl⟩ := mem_nth hx
    rw [lat_length] at ha
    exact Int.lt_of_le_of_lt (key a ha).2 (h.sm _ (nth_mem ha))
theorem rot_lot {b : Nat} {xs : List Int} (h : Lot b xs) : Lot b (rot xs) := by
  obtain ⟨x, hx, h0⟩ := h.ps
  exact ⟨by rw [rot_length]; exact h.l2, by rw [rot_length]; exact h.l4, fun x hx => h.nn x (rot_mem.mp hx), ⟨x, rot_mem.mpr hx, h0⟩, fun x hx => h.sm x (rot_mem.mp hx)⟩
theorem step_lot {b : Nat} {xs : List Int} (h : Lot b xs) (he : ended xs = false) (r : Rul) : Lot b (stepL r xs) := by
  have s := sh_of h he r
  unfold stepL
  split
  · exact rot_lot (lat_lot h s)
  · exact lat_lot h s
/-! the bits of a step's table -/
theorem fdiv_bd {a b : Int} (ha : 0 ≤ a) (hb : 0 < b) : 0 ≤ a.fdiv b ∧ a.fdiv b ≤ a := by
  have h2 : 0 ≤ a.fdiv b := Int.fdiv_nonneg ha (by omega)
  refine ⟨h2, ?_⟩
  have := fdm b a
  obtain ⟨f1, f2, f3⟩ := fmod_bd ha hb
  have h5 : a.fdiv b * 1 ≤ a.fdiv b * b := Int.mul_le_mul_of_nonneg_left (by omega) h2
  omega
theorem tab_bm {b : Nat} {xs : List Int} (h : Lot b xs) {c : Nat} {gs : List Nat} (s : Sh xs c gs) (hb : 1 ≤ b) : Bm b (tab xs c gs) := by
  intro r hr x hx
  obtain ⟨a, ha, rfl⟩ := List.mem_map.mp hr
  obtain ⟨j, hj, rfl⟩ := List.mem_map.mp hx
  rw [List.mem_range] at ha
  have p1 : 1 < 2 ^ b := Nat.one_lt_two_pow (by omega)
  split
  · simpa using p1
  · split
    · rename_i z
      obtain ⟨f1, f2⟩ := fdiv_bd (h.nn _ (nth_mem ha)) (s.g a z.2).2.2
      have := h.bv _ (nth_mem ha)
      omega
    · simpa using (show 0 < 2 ^ b by omega)
theorem step_bm {b : Nat} {xs : List Int} (h : Lot b xs) (he : ended xs = false) (hb : 1 ≤ b) (r : Rul) : Bm b (stepT r xs) := by
  have s := sh_of h he r
  unfold stepT
  split
  · intro q hq x hx
    obtain ⟨p, hp, rfl⟩ := List.mem_map.mp hq
    exact tab_bm h s hb p hp x (rot_mem.mp hx)
  · exact tab_bm h s hb
end DD

set_option Elab.async false
set_option linter.all false
set_option maxRecDepth 100000
set_option maxHeartbeats 1000000
namespace DD
open PySem (Str)
/-! a run comes to an end -/
def bl (n : Nat) : Nat := if n = 0 then 0 else n.log2 + 1
theorem bl_le {m k : Nat} : bl m ≤ k ↔ m < 2 ^ k := by
  unfold bl
  by_cases h : m = 0
  · subst h; simp [Nat.pow_pos]
  · rw [if_neg h]
    exact Nat.log2_lt h
theorem bl_mono {m n : Nat} (h : m ≤ n) : bl m ≤ bl n := bl_le.mpr (Nat.lt_of_le_of_lt h (bl_le.mp (Nat.le_refl _)))
theorem bl_half {m n : Nat} (h : 2 * m < n) : bl m + 1 ≤ bl n := by
  have h1 := bl_le.mp (Nat.le_refl (bl n))
  have h0 : 0 < bl n := by
    rcases Nat.eq_zero_or_pos (bl n) with e | e
    · rw [e] at h1; simp at h1; omega
    · exact e
  obtain ⟨k, hk⟩ : ∃ k, bl n = k + 1 := ⟨bl n - 1, by omega⟩
  rw [hk, Nat.pow_succ] at h1
  have : bl m ≤ k := bl_le.mpr (by omega)
  omega
def bls (xs : List Int) : Nat := (xs.map fun x => bl x.toNat).sum
theorem bls_range (xs : List Int) : bls xs = ((List.range xs.length).map fun a => bl (nth xs a).toNat).sum := by
  unfold bls
  congr 1
  apply List.ext_getElem
  · simp
  · intro i h1 h2
    simp only [List.getElem_map, List.getElem_range]
    rw [nth_eq]
theorem sum_le_of {f g : Nat → Nat} : ∀ {xs : List Nat}, (∀ a ∈ xs, f a ≤ g a) → (xs.map f).sum ≤ (xs.map g).sum
  | [], _ => Nat.le_refl _
  | x :: xs, h => by
    have h1 := h x (by simp)
    have h2 := sum_le_of (xs := xs) fun a ha => h a (by simp [ha])
    simp only [List.map_cons, List.sum_cons]; omega
theorem sum_lt_of {f g : Nat → Nat} : ∀ {xs : List Nat}, (∀ a ∈ xs, f a ≤ g a) → (∃ a ∈ xs, f a < g a) → (xs.map f).sum < (xs.map g).sum
  | [], _, h => by obtain ⟨_, h, _⟩ := h; cases h
  | x :: xs, h, ⟨a, ha, hl⟩ => by
    have h1 := h x (by simp)
    have h2 := sum_le_of (xs := xs) fun a ha => h a (by simp [ha])
    simp only [List.map_cons, List.sum_cons]
    rcases List.mem_cons.mp ha with rfl | ha
    · omega
    · have := sum_lt_of (xs := xs) (fun a ha => h a (by simp [ha])) ⟨a, ha, hl⟩
      omega
theorem lat_bls {b : Nat} {xs : List Int} (h : Lot b xs) {c : Nat} {gs : List Nat} (s : Sh xs c gs) (hx : ∃ a ∈ gs, nth xs c ≤ nth xs a) : bls (lat xs c gs) < bls xs := by
  rw [bls_range, bls_range, lat_length]
  apply sum_lt_of
  · intro a ha
    rw [List.mem_range] at ha
    rw [lat_nth ha]
    split
    · rename_i hg
      obtain ⟨f1, f2, f3⟩ := fmod_bd (h.nn _ (nth_mem ha)) (s.g a hg).2.2
      exact bl_mono (by omega)
    · exact Nat.le_refl _
  · obtain ⟨a, hg, hle⟩ := hx
    refine ⟨a, List.mem_range.mpr (s.g a hg).1, ?_⟩
    rw [lat_nth (s.g a hg).1, if_pos hg]
    have := fmod_half (s.g a hg).2.2 hle
    obtain ⟨f1, f2, f3⟩ := fmod_bd (h.nn _ (nth_mem (s.g a hg).1)) (s.g a hg).2.2
    exact bl_half (by omega)
theorem lat_same {b : Nat} {xs : List Int} (h : Lot b xs) {c : Nat} {gs : List Nat} (s : Sh xs c gs) (hx : ∀ a ∈ gs, nth xs a < nth xs c) : lat xs c gs = xs := by
  apply List.ext_getElem
  · simp [lat]
  · intro a h1 h2
    rw [nth_eq, nth_eq, lat_nth h2]
    split
    · rename_i hg
      have h0 := h.nn _ (nth_mem h2)
      rw [Int.fmod_eq_emod_of_nonneg _ (by have := (s.g a hg).2.2; omega)]
      exact Int.emod_eq_of_lt h0 (hx a hg)
    · rfl
theorem bls_rot (xs : List Int) : bls (rot xs) = bls xs := by
  unfold bls rot
  rw [List.map_append, List.sum_append, Nat.add_comm, ← List.sum_append, ← List.map_append, List.take_append_drop]
theorem plc_le {xs : List Int} {v b : Int} {i : Nat} (h1 : i < xs.length) (h2 : nth xs i = v) (h3 : (i : Int) ≠ b) : plc xs v b ≤ i := by
  have hm : i ∈ atP xs v b := by
    unfold atP
    rw [List.mem_filter]
    exact ⟨List.mem_range.mpr h1, by simp [h2, h3]⟩
  have hp : (atP xs v b).Pairwise (· < ·) := List.Pairwise.sublist List.filter_sublist List.pairwise_lt_range
  unfold plc
  rcases e : atP xs v b with _ | ⟨j, js⟩
  · rw [e] at hm; cases hm
  · rw [e] at hm hp
    rw [List.pairwise_cons] at hp
    rcases List.mem_cons.mp hm with rfl | hm
    · exact Nat.le_refl _
    · exact Nat.le_of_lt (hp.1 i hm)
/-- how long a run may be -/
def mu (r : Rul) (xs : List Int) : Nat := if r = .turn then 5 * bls xs + byP .all xs else bls xs
theorem mn_rot {b : Nat} {xs : List Int} (h : Lot b xs) : mn ((rot xs).filter fun x => decide (x > 0)) = mn (xs.filter fun x => decide (x > 0)) := by
  obtain ⟨m, e, hm, hle⟩ := minI_ok (filt_ne h.ps)
  obtain ⟨m', e', hm', hle'⟩ := minI_ok (filt_ne (rot_lot h).ps)
  have key : ∀ x, x ∈ (rot xs).filter (fun x => decide (x > 0)) ↔ x ∈ xs.filter fun x => decide (x > 0) := by
    intro x; rw [List.mem_filter, List.mem_filter, rot_mem]
  have h1 := hle m' ((key m').mp hm')
  have h2 := hle' m ((key m).mpr hm)
  simp only [mn, e, e', Option.getD_some]; omega
theorem nth_rot {xs : List Int} {k : Nat} (h : k + 1 < xs.length) : nth (rot xs) k = nth xs (k + 1) := by
  unfold nth rot
  rw [List.getD_eq_getElem?_getD, List.getElem?_append_left (by simp; omega), List.getElem?_drop, List.getD_eq_getElem?_getD, Nat.add_comm]
theorem step_mu {b : Nat} {xs : List Int} (h : Lot b xs) (he : ended xs = false) (r : Rul) : mu r (stepL r xs) < mu r xs := by
  have s := sh_of h he r
  have l4 := h.l4
  cases r with
  | turn =>
    have sl := step_lot h he .turn
    have b1 := (by_all sl).2.2.1
    rw [step_length] at b1
    simp only [mu, if_true]
    by_cases hx : ∃ a ∈ gone .turn xs, nth xs (byP .turn xs) ≤ nth xs a
    · have := lat_bls h s hx
      have e : bls (stepL .turn xs) = bls (lat xs (byP .turn xs) (gone .turn xs)) := by
        unfold stepL; rw [if_pos rfl, bls_rot]
      omega
    · have hx' : ∀ a ∈ gone .turn xs, nth xs a < nth xs (byP .turn xs) := fun a ha => by
        refine Classical.byContradiction fun z => hx ⟨a, ha, by omega⟩
      have e : stepL .turn xs = rot xs := by unfold stepL; rw [if_pos rfl, lat_same h s hx']
      rw [e, bls_rot]
      obtain ⟨_, q0, q1, q2, q3⟩ := by_all h
      have hne : byP .all xs ≠ 0 := by
        intro z
        rw [z] at q2 q3
        obtain ⟨i, hi, hi0, hp⟩ := two_pos h.ps he 0 (by have := h.l2; omega)
        have hg : i ∈ gone .turn xs := by
          unfold gone
          rw [List.mem_filter, List.mem_range, Bool.and_eq_true, decide_eq_true_eq, decide_eq_true_eq]
          refine ⟨hi, ?_, q2⟩
          show (i : Int) ≠ ((0 : Nat) : Int)
          omega
        have a1 := hx' i hg
        have a2 := q3 i hi hp
        simp only [byP] at a1
        omega
      obtain ⟨k, hk⟩ : ∃ k, byP .all xs = k + 1 := ⟨byP .all xs - 1, by omega⟩
      have hv : nth xs (byP .all xs) = mn (xs.filter fun x => decide (x > 0)) := by
        obtain ⟨m, e, hm, hle⟩ := minI_ok (filt_ne h.ps)
        have em : mn (xs.filter fun x => decide (x > 0)) = m := by simp [mn, e]
        have hm' := List.mem_filter.mp hm
        obtain ⟨i, hi, ei⟩ := mem_nth hm'.1
        have := (plc_ok (xs := xs) (v := mn (xs.filter fun x => decide (x > 0))) (b := -1) ⟨i, hi, by rw [ei, em], by omega⟩).2.2.1
        exact this
      have : byP .all (rot xs) ≤ k := by
        simp only [byP]
        refine plc_le (by rw [rot_length]; omega) ?_ (by omega)
        rw [mn_rot h, nth_rot (by omega), ← hk, hv]
      omega
  | all =>
    simp only [mu, stepL, reduceCtorEq, if_false]
    obtain ⟨_, q0, q1, q2, q3⟩ := by_all h
    obtain ⟨i, hi, hit, hp⟩ := two_pos h.ps he _ q1
    refine lat_bls h s ⟨i, ?_, q3 i hi hp⟩
    simp only [gone, List.mem_filter, List.mem_range, Bool.and_eq_true, decide_eq_true_eq]
    exact ⟨hi, by omega, q2⟩
  | next =>
    simp only [mu, stepL, reduceCtorEq, if_false]
    obtain ⟨m, _, _, _, t1, t2, t3⟩ := top_ok h
    refine lat_bls h s ⟨top xs, by simp [gone], ?_⟩
    rw [t2]; exact t3 _ (nth_mem s.hb)
  | least =>
    simp only [mu, stepL, reduceCtorEq, if_false]
    obtain ⟨m, _, _, _, t1, t2, t3⟩ := top_ok h
    refine lat_bls h s ⟨top xs, by simp [gone], ?_⟩
    rw [t2]; exact t3 _ (nth_mem s.hb)
theorem mu_le {b : Nat} {xs : List Int} (h : Lot b xs) (r : Rul) : mu r xs ≤ 20 * b + 3 := by
  have h1 : bls xs ≤ 4 * b := by
    rw [bls_range]
    have : ∀ (ys : List Nat), (∀ a ∈ ys, a < xs.length) → (ys.map fun a => bl (nth xs a).toNat).sum ≤ ys.length * b := by
      intro ys
      induction ys with
      | nil => intro _; simp
      | cons y ys ih =>
        intro hy
        have i1 := ih fun a ha => hy a (by simp [ha])
        have i2 : bl (nth xs y).toNat ≤ b := by
          rw [bl_le]
          have := h.bv _ (nth_mem (hy y (by simp)))
          have := h.nn _ (nth_mem (hy y (by simp)))
          omega
        simp only [List.map_cons, List.sum_cons, List.length_cons, Nat.succ_mul]; omega
    have := this (List.range xs.length) fun a ha => List.mem_range.mp ha
    rw [List.length_range] at this
    exact Nat.le_trans this (Nat.mul_le_mul_right b h.l4)
  have h2 := (by_all h).2.2.1
  have := h.l4
  unfold mu
  split <;> omega
/-- the lots of a run, its tables -/
def runs (r : Rul) : Nat → List Int → List (List Int)
  | 0, xs => [xs]
  | k + 1, xs => if ended xs then [xs] else xs :: runs r k (stepL r xs)
def tabs (r : Rul) : Nat → List Int → List Mx
  | 0, _ => []
  | k + 1, xs => if ended xs then [] else stepT r xs :: tabs r k (stepL r xs)
theorem lot_end {b : Nat} {xs : List Int} (h : Lot b xs) (r : Rul) (hm : mu r xs = 0) : ended xs = true := by
  cases e : ended xs with
  | true => rfl
  | false => have := step_mu h e r; omega
theorem runs_more {b : Nat} (r : Rul) : ∀ (k : Nat) (xs : List Int), Lot b xs → mu r xs ≤ k → runs r (k + 1) xs = runs r k xs ∧ tabs r (k + 1) xs = tabs r k xs
  | 0, xs, h, hm => by
    have e := lot_end h r (by omega)
    simp [runs, tabs, e]
  | k + 1, xs, h, hm => by
    cases e : ended xs with
    | true => simp [runs, tabs, e]
    | false =>
      have := step_mu h e r
      obtain ⟨i1, i2⟩ := runs_more r k (stepL r xs) (step_lot h e r) (by omega)
      constructor
      · show (if _ then _ else _) = (if _ then _ else _)
        rw [e]; simp [i1]
      · show (if _ then _ else _) = (if _ then _ else _)
        rw [e]; simp [i2]
theorem runs_any {b : Nat} (r : Rul) {xs : List Int} (h : Lot b xs) : ∀ (d k : Nat), mu r xs ≤ k → runs r (k + d) xs = runs r k xs ∧ tabs r (k + d) xs = tabs r k xs
  | 0, k, _ => ⟨rfl, rfl⟩
  | d + 1, k, hm => by
    obtain ⟨i1, i2⟩ := runs_any r h d k hm
    obtain ⟨j1, j2⟩ := runs_more r (k + d) xs h (by omega)
    exact ⟨by rw [← i1, ← j1]; rfl, by rw [← i2, ← j2]; rfl⟩
theorem runs_len (r : Rul) : ∀ (k : Nat) (xs : List Int), (runs r k xs).length = (tabs r k xs).length + 1 ∧ (tabs r k xs).length ≤ k
  | 0, xs => by simp [runs, tabs]
  | k + 1, xs => by
    cases e : ended xs with
    | true => simp [runs, tabs, e]
    | false =>
      obtain ⟨h1, h2⟩ := runs_len r k (stepL r xs)
      simp [runs, tabs, e, h1, h2]
end DD

set_option Elab.async false
set_option linter.all false
set_option maxRecDepth 100000
set_option maxHeartbeats 1000000
namespace DD
open PySem (Str)
/-! the common -/
def gcdN (xs : List Int) : Nat := xs.foldl (fun g x => Nat.gcd g x.natAbs) 0
theorem gcd_fold (d : Nat) : ∀ (xs : List Int) (g : Nat), d ∣ xs.foldl (fun g x => Nat.gcd g x.natAbs) g ↔ d ∣ g ∧ ∀ x ∈ xs, (d : Int) ∣ x
  | [], g => by simp
  | x :: xs, g => by
    rw [List.foldl_cons, gcd_fold d xs, Nat.dvd_gcd_iff, ← Int.ofNat_dvd_left]
    simp only [List.mem_cons, forall_eq_or_imp]
    constructor
    · rintro ⟨⟨h1, h2⟩, h3⟩; exact ⟨h1, h2, h3⟩
    · rintro ⟨h1, h2, h3⟩; exact ⟨⟨h1, h2⟩, h3⟩
theorem dvd_gcdN {d : Nat} {xs : List Int} : d ∣ gcdN xs ↔ ∀ x ∈ xs, (d : Int) ∣ x := by
  unfold gcdN
  rw [gcd_fold]; simp
theorem gcdN_eq {xs ys : List Int} (h : ∀ d : Nat, (∀ x ∈ xs, (d : Int) ∣ x) ↔ ∀ y ∈ ys, (d : Int) ∣ y) : gcdN xs = gcdN ys := by
  apply Nat.dvd_antisymm
  · exact dvd_gcdN.mpr ((h _).mp (dvd_gcdN.mp (Nat.dvd_refl _)))
  · exact dvd_gcdN.mpr ((h _).mpr (dvd_gcdN.mp (Nat.dvd_refl _)))
theorem dvd_sum {d : Int} : ∀ {xs : List Int}, (∀ x ∈ xs, d ∣ x) → d ∣ xs.sum
  | [], _ => by simp
  | x :: xs, h => by
    rw [List.sum_cons]
    exact Int.dvd_add (h x (by simp)) (dvd_sum fun y hy => h y (by simp [hy]))
theorem dvd_led {d : Int} {M : Mx} {v : List Int} (h : ∀ x ∈ v, d ∣ x) : ∀ y ∈ ledM M v, d ∣ y := by
  intro y hy
  obtain ⟨r, hr, rfl⟩ := List.mem_map.mp hy
  refine dvd_sum fun z hz => ?_
  obtain ⟨i, hi, rfl⟩ := List.mem_iff_getElem.mp hz
  rw [List.getElem_zipWith]
  exact Int.dvd_mul_of_dvd_right (h _ (List.getElem_mem _))
theorem step_gcd {b : Nat} {xs : List Int} (h : Lot b xs) (he : ended xs = false) (r : Rul) : gcdN (stepL r xs) = gcdN xs := by
  have f := step_fair h he r
  have e := step_led h he r
  apply gcdN_eq
  intro d
  constructor
  · intro k
    rw [← e]; exact dvd_led k
  · intro k
    have : ledM (backM xs.length (stepT r xs)) xs = stepL r xs := by
      have := f.led h.l2 h.l4 (v := stepL r xs) (step_length r xs)
      rw [e] at this
      exact this
    rw [← this]; exact dvd_led k
theorem sum_filter {xs : List Int} (h : ∀ x ∈ xs, 0 ≤ x) : xs.sum = (xs.filter fun x => decide (x > 0)).sum := by
  induction xs with
  | nil => rfl
  | cons x xs ih =>
    have i := ih fun y hy => h y (by simp [hy])
    have h0 := h x (by simp)
    rw [List.sum_cons, List.filter_cons, i]
    split
    · rw [List.sum_cons]
    · rename_i z
      have : ¬ (x > 0) := by simpa using z
      have : x = 0 := by omega
      rw [this]; simp
theorem end_sum {b : Nat} {xs : List Int} (h : Lot b xs) (he : ended xs = true) : xs.sum = (gcdN xs : Int) := by
  unfold ended at he
  rw [beq_iff_eq, List.length_eq_one_iff] at he
  obtain ⟨x, ex⟩ := he
  have hx : x ∈ xs.filter fun x => decide (x > 0) := by rw [ex]; simp
  rw [List.mem_filter] at hx
  have h0 : 0 < x := by simpa using hx.2
  have es : xs.sum = x := by rw [sum_filter h.nn, ex]; simp
  rw [es]
  have d1 : ((gcdN xs : Nat) : Int) ∣ x := dvd_gcdN.mp (Nat.dvd_refl _) x hx.1
  have d2 : x.natAbs ∣ gcdN xs := by
    rw [dvd_gcdN]
    intro y hy
    rw [Int.natAbs_dvd]
    by_cases hy0 : y > 0
    · have : y ∈ xs.filter fun x => decide (x > 0) := List.mem_filter.mpr ⟨hy, by simpa using hy0⟩
      rw [ex, List.mem_singleton] at this
      subst this; exact Int.dvd_refl _
    · have := h.nn y hy
      have : y = 0 := by omega
      rw [this]; exact Int.dvd_zero _
  rw [Int.ofNat_dvd_left] at d1
  have := Nat.dvd_antisymm d1 d2
  omega
/-! the whole -/
def whole (n : Nat) (Ts : List Mx) : Mx := Ts.foldl mulM (oneM n)
theorem fold_mul {n : Nat} (h2 : 2 ≤ n) (h4 : n ≤ 4) : ∀ (Ts : List Mx) (A : Mx), Sq n A → (∀ T ∈ Ts, Sq n T) → Ts.foldl mulM A = mulM A (whole n Ts) ∧ Sq n (whole n Ts)
  | [], A, a, _ => ⟨((oneMul h2 h4 a).2).symm, Sq.one n⟩
  | T :: Ts, A, a, h => by
    have t := h T (by simp)
    obtain ⟨e1, s1⟩ := fold_mul h2 h4 Ts (mulM A T) a.mul fun U hU => h U (by simp [hU])
    obtain ⟨e2, s2⟩ := fold_mul h2 h4 Ts (mulM (oneM n) T) (Sq.one n).mul fun U hU => h U (by simp [hU])
    have ew : whole n (T :: Ts) = mulM T (whole n Ts) := by
      show Ts.foldl mulM (mulM (oneM n) T) = _
      rw [e2, (oneMul h2 h4 t).1]
    constructor
    · rw [List.foldl_cons, e1, ew, assocM h2 h4 a t s1]
    · rw [ew]; exact t.mul
theorem whole_cons {n : Nat} (h2 : 2 ≤ n) (h4 : n ≤ 4) {T : Mx} {Ts : List Mx} (h : ∀ U ∈ T :: Ts, Sq n U) : whole n (T :: Ts) = mulM T (whole n Ts) := by
  have t := h T (by simp)
  obtain ⟨e2, s2⟩ := fold_mul h2 h4 Ts (mulM (oneM n) T) (Sq.one n).mul fun U hU => h U (by simp [hU])
  show Ts.foldl mulM (mulM (oneM n) T) = _
  rw [e2, (oneMul h2 h4 t).1]
theorem fold_bm {n b : Nat} : ∀ (Ts : List Mx) (A : Mx) (c : Nat), Sq n A → Bm c A → (∀ T ∈ Ts, Sq n T ∧ Bm b T) → Bm (c + Ts.length * (b + n)) (Ts.foldl mulM A)
  | [], A, c, _, h, _ => by simpa using h
  | T :: Ts, A, c, s, h, hT => by
    have := fold_bm Ts (mulM A T) (c + b + n) s.mul (Bm.mul s h (hT T (by simp)).2) fun U hU => hT U (by simp [hU])
    rw [List.length_cons, Nat.succ_mul]
    exact this.up (by omega)
theorem one_bm (n : Nat) : Bm 1 (oneM n) := by
  intro r hr x hx
  obtain ⟨i, _, rfl⟩ := List.mem_map.mp hr
  obtain ⟨j, _, rfl⟩ := List.mem_map.mp hx
  split <;> decide
/-- what is told of a run -/
structure RunOk (b : Nat) (r : Rul) (xs : List Int) (ls : List (List Int)) (Ts : List Mx) : Prop where
  len : ls.length = Ts.length + 1
  fst : ls[0]? = some xs
  lots : ∀ y ∈ ls, Lot b y ∧ y.length = xs.length ∧ gcdN y = gcdN xs
  tbs : ∀ T ∈ Ts, Fair xs.length T ∧ Bm b T
  at_ : ∀ i T, Ts[i]? = some T → ∃ y, ls[i]? = some y ∧ ls[i + 1]? = some (stepL r y) ∧ T = stepT r y ∧ ended y = false
  ends : ls.map ended = List.replicate Ts.length false ++ [true]
  fair : Fair xs.length (whole xs.length Ts)
  last : ∃ init z, ls = init ++ [z] ∧ ended z = true ∧ ledM (whole xs.length Ts) z = xs
theorem run_ok {b : Nat} (hb : 1 ≤ b) (r : Rul) : ∀ (k : Nat) (xs : List Int), Lot b xs → mu r xs ≤ k → RunOk b r xs (runs r k xs) (tabs r k xs) := by
  have base : ∀ xs : List Int, Lot b xs → ended xs = true → RunOk b r xs [xs] [] := by
    intro xs h e
    refine ⟨rfl, rfl, fun y hy => ?_, by simp, by simp, by simp [e], ⟨Sq.one _, .inl (detOne h.l2 h.l4)⟩, [], xs, rfl, e, ledOne h.l2 h.l4 rfl⟩
    rw [List.mem_singleton] at hy; subst hy
    exact ⟨h, rfl, rfl⟩
  intro k
  induction k with
  | zero =>
    intro xs h hm
    exact base xs h (lot_end h r (by omega))
  | succ k ih =>
    intro xs h hm
    cases e : ended xs with
    | true =>
      have e1 : runs r (k + 1) xs = [xs] := by simp [runs, e]
      have e2 : tabs r (k + 1) xs = [] := by simp [tabs, e]
      rw [e1, e2]; exact base xs h e
    | false =>
      have e1 : runs r (k + 1) xs = xs :: runs r k (stepL r xs) := by simp [runs, e]
      have e2 : tabs r (k + 1) xs = stepT r xs :: tabs r k (stepL r xs) := by simp [tabs, e]
      have hmu := step_mu h e r
      have sl := step_lot h e r
      have ln := step_length r xs
      have i := ih (stepL r xs) sl (by omega)
      have hf := step_fair h e r
      have hbm := step_bm h e hb r
      rw [e1, e2]
      have tb' : ∀ T ∈ stepT r xs :: tabs r k (stepL r xs), Fair xs.length T ∧ Bm b T := by
        intro T hT
        rcases List.mem_cons.mp hT with rfl | hT
        · exact ⟨hf, hbm⟩
        · have := i.tbs T hT
          rw [ln] at this; exact this
      have ew := whole_cons h.l2 h.l4 (T := stepT r xs) (Ts := tabs r k (stepL r xs)) fun U hU => (tb' U hU).1.s
      have fw := i.fair
      rw [ln] at fw
      obtain ⟨init, z, q1, q2, q3⟩ := i.last
      have hz : z ∈ runs r k (stepL r xs) := by rw [q1]; simp
      refine ⟨by simp [i.len], rfl, fun y hy => ?_, tb', fun j T hj => ?_, ?_, ?_, xs :: init, z, by rw [q1]; rfl, q2, ?_⟩
      · rcases List.mem_cons.mp hy with rfl | hy
        · exact ⟨h, rfl, rfl⟩
        · obtain ⟨a1, a2, a3⟩ := i.lots y hy
          exact ⟨a1, by rw [a2, ln], by rw [a3, step_gcd h e r]⟩
      · cases j with
        | zero =>
          simp at hj; subst hj
          exact ⟨xs, rfl, by simpa using i.fst, rfl, e⟩
        | succ j =>
          obtain ⟨y, a1, a2, a3, a4⟩ := i.at_ j T (by simpa using hj)
          exact ⟨y, by simpa using a1, by simpa using a2, a3, a4⟩
      · rw [List.map_cons, i.ends, List.length_cons, List.replicate_succ, e]; rfl
      · rw [ew]; exact hf.mul h.l2 h.l4 fw
      · rw [ew, ledMul h.l2 h.l4 hf.s fw.s (by rw [(i.lots z hz).2.1, ln])]
        rw [ln] at q3
        rw [q3]; exact step_led h e r
theorem whole_bm {b : Nat} {r : Rul} {xs : List Int} {ls : List (List Int)} {Ts : List Mx} (h : RunOk b r xs ls Ts) : Bm (1 + Ts.length * (b + xs.length)) (whole xs.length Ts) :=
  fold_bm Ts (oneM _) 1 (Sq.one _) (one_bm _) fun T hT => ⟨(h.tbs T hT).1.s, (h.tbs T hT).2⟩
/-! a lot so many times -/
def tm (m : Int) (xs : List Int) : List Int := xs.map fun x => x * m
theorem tm_nth (m : Int) (xs : List Int) (i : Nat) : nth (tm m xs) i = nth xs i * m := by
  unfold nth tm
  simp only [List.getD_eq_getElem?_getD, List.getElem?_map]
  cases xs[i]? <;> simp
theorem tm_len (m : Int) (xs : List Int) : (tm m xs).length = xs.length := by simp [tm]
theorem mul_inj {m a b : Int} (h : 0 < m) : a * m = b * m ↔ a = b := ⟨fun e => Int.eq_of_mul_eq_mul_right (by omega) e, fun e => by rw [e]⟩
theorem mul_pos' {m a : Int} (h : 0 < m) : a * m > 0 ↔ a > 0 := by
  constructor
  · intro k
    refine Classical.byContradiction fun z => ?_
    have := Int.mul_le_mul_of_nonneg_right (show a ≤ 0 by omega) (show 0 ≤ m by omega)
    omega
  · intro k; exact Int.mul_pos k h
theorem tm_filter {m : Int} (h : 0 < m) (xs : List Int) : (tm m xs).filter (fun x => decide (x > 0)) = tm m (xs.filter fun x => decide (x > 0)) := by
  unfold tm
  rw [List.filter_map]
  congr 1
  refine List.filter_congr fun x _ => ?_
  show decide (x * m > 0) = decide (x > 0)
  rw [decide_eq_decide]; exact mul_pos' h
theorem tm_ended {m : Int} (h : 0 < m) (xs : List Int) : ended (tm m xs) = ended xs := by
  unfold ended
  rw [tm_filter h, tm_len]
theorem foldl_min_tm {m : Int} (h : 0 < m) : ∀ (xs : List Int) (a : Int), (tm m xs).foldl min (a * m) = xs.foldl min a * m
  | [], a => rfl
  | x :: xs, a => by
    show (tm m xs).foldl min (min (a * m) (x * m)) = xs.foldl min (min a x) * m
    rw [← foldl_min_tm h xs]
    congr 1
    rcases Int.le_total a x with k | k
    · rw [Int.min_eq_left k, Int.min_eq_left (Int.mul_le_mul_of_nonneg_right k (by omega))]
    · rw [Int.min_eq_right k, Int.min_eq_right (Int.mul_le_mul_of_nonneg_right k (by omega))]
theorem foldl_max_tm {m : Int} (h : 0 < m) : ∀ (xs : List Int) (a : Int), (tm m xs).foldl max (a * m) = xs.foldl max a * m
  | [], a => rfl
  | x :: xs, a => by
    show (tm m xs).foldl max (max (a * m) (x * m)) = xs.foldl max (max a x) * m
    rw [← foldl_max_tm h xs]
    congr 1
    rcases Int.le_total a x with k | k
    · rw [Int.max_eq_right k, Int.max_eq_right (Int.mul_le_mul_of_nonneg_right k (by omega))]
    · rw [Int.max_eq_left k, Int.max_eq_left (Int.mul_le_mul_of_nonneg_right k (by omega))]
theorem tm_mn {m : Int} (h : 0 < m) (xs : List Int) : mn (tm m xs) = mn xs * m := by
  cases xs with
  | nil => simp [mn, minI, tm]
  | cons x xs => exact foldl_min_tm h xs x
theorem tm_mx {m : Int} (h : 0 < m) (xs : List Int) : mx (tm m xs) = mx xs * m := by
  cases xs with
  | nil => simp [mx, maxI, tm]
  | cons x xs => exact foldl_max_tm h xs x
theorem tm_plc {m : Int} (h : 0 < m) (xs : List Int) (v b : Int) : plc (tm m xs) (v * m) b = plc xs v b := by
  unfold plc atP
  rw [tm_len]
  congr 1
  refine List.filter_congr fun i _ => ?_
  rw [tm_nth]
  congr 1
  rw [decide_eq_decide]; exact mul_inj h
theorem tm_top {m : Int} (h : 0 < m) (xs : List Int) : top (tm m xs) = top xs := by
  unfold top; rw [tm_mx h, tm_plc h]
theorem tm_oths {m : Int} (h : 0 < m) (xs : List Int) : oths (tm m xs) = tm m (oths xs) := by
  unfold oths
  rw [tm_len, tm_top h]
  have e : (fun (i : Nat) => decide ((i : Int) ≠ (top xs : Int)) && decide (nth (tm m xs) i > 0)) = fun (i : Nat) => decide ((i : Int) ≠ (top xs : Int)) && decide (nth xs i > 0) := by
    funext i
    rw [tm_nth]
    congr 1
    rw [decide_eq_decide]; exact mul_pos' h
  rw [e]
  unfold tm
  rw [List.map_map]
  exact List.map_congr_left fun i _ => tm_nth m xs i
theorem tm_by {m : Int} (h : 0 < m) (r : Rul) (xs : List Int) : byP r (tm m xs) = byP r xs := by
  cases r with
  | turn => rfl
  | all => simp only [byP]; rw [tm_filter h, tm_mn h, tm_plc h]
  | next => simp only [byP]; rw [tm_oths h, tm_mx h, tm_top h, tm_plc h]
  | least => simp only [byP]; rw [tm_oths h, tm_mn h, tm_top h, tm_plc h]
theorem tm_gone {m : Int} (h : 0 < m) (r : Rul) (xs : List Int) : gone r (tm m xs) = gone r xs := by
  cases r with
  | turn =>
    simp only [gone]
    rw [tm_len, tm_by h, tm_nth]
    refine List.filter_congr fun i _ => ?_
    congr 1
    rw [decide_eq_decide]; exact mul_pos' h
  | all =>
    simp only [gone]
    rw [tm_len, tm_by h, tm_nth]
    refine List.filter_congr fun i _ => ?_
    congr 1
    rw [decide_eq_decide]; exact mul_pos' h
  | next => simp only [gone, tm_top h]
  | least => simp only [gone, tm_top h]
theorem fdiv_tm {m a b : Int} (h : 0 < m) (hb : 0 < b) : (a * m).fdiv (b * m) = a.fdiv b := by
  have hbm := Int.mul_pos hb h
  rw [Int.fdiv_eq_ediv_of_nonneg _ (by omega), Int.fdiv_eq_ediv_of_nonneg _ (by omega)]
  exact Int.mul_ediv_mul_of_pos_left a b h
theorem fmod_tm {m a b : Int} (h : 0 < m) (hb : 0 < b) : (a * m).fmod (b * m) = a.fmod b * m := by
  have e1 := fdm (b * m) (a * m)
  have e2 := fdm b a
  rw [fdiv_tm h hb] at e1
  have : (a.fmod b + a.fdiv b * b) * m = a * m := by rw [e2]
  rw [Int.add_mul, Int.mul_assoc] at this
  omega
theorem tm_rot (m : Int) (xs : List Int) : rot (tm m xs) = tm m (rot xs) := by
  simp [rot, tm, List.map_drop, List.map_take]
theorem tm_step {b : Nat} {m : Int} (h : 0 < m) {xs : List Int} (l : Lot b xs) (he : ended xs = false) (r : Rul) : stepL r (tm m xs) = tm m (stepL r xs) ∧ stepT r (tm m xs) = stepT r xs := by
  have s := sh_of l he r
  have e1 : lat (tm m xs) (byP r xs) (gone r xs) = tm m (lat xs (byP r xs) (gone r xs)) := by
    unfold lat
    rw [tm_len]
    unfold tm
    rw [List.map_map]
    refine List.map_congr_left fun a ha => ?_
    show (if _ then _ else _) = (if _ then _ else _) * m
    have e := tm_nth m xs
    unfold tm at e
    rw [e, e]
    split
    · rename_i hg
      exact fmod_tm h (s.g a hg).2.2
    · rfl
  have e2 : tab (tm m xs) (byP r xs) (gone r xs) = tab xs (byP r xs) (gone r xs) := by
    unfold tab
    rw [tm_len]
    refine List.map_congr_left fun a ha => List.map_congr_left fun j hj => ?_
    rw [tm_nth, tm_nth]
    split
    · rfl
    · split
      · rename_i z
        exact fdiv_tm h (s.g a z.2).2.2
      · rfl
  unfold stepL stepT
  rw [tm_by h, tm_gone h, e1, e2, tm_rot]
  constructor
  · split <;> rfl
  · rfl
theorem tm_tabs {b : Nat} {m : Int} (h : 0 < m) (r : Rul) : ∀ (k : Nat) (xs : List Int), Lot b xs → tabs r k (tm m xs) = tabs r k xs
  | 0, _, _ => rfl
  | k + 1, xs, l => by
    simp only [tabs, tm_ended h]
    cases e : ended xs with
    | true => rfl
    | false =>
      obtain ⟨e1, e2⟩ := tm_step h l e r
      simp only [Bool.false_eq_true, if_false]
      rw [e1, e2, tm_tabs h r k _ (step_lot l e r)]
end DD

set_option Elab.async false
set_option linter.all false
set_option maxRecDepth 100000
set_option maxHeartbeats 1000000
/-! rules as data, comprehensions over places -/
namespace DD
open PySem (Str)
theorem eq_turn (r : Rul) : cmpop .eq (.str r.s) (.str (PySem.Str.ofString "turn")) = some (decide (r = .turn)) := by cases r <;> decide +kernel
theorem eq_all (r : Rul) : cmpop .eq (.str r.s) (.str (PySem.Str.ofString "all")) = some (decide (r = .all)) := by cases r <;> decide +kernel
theorem eq_next (r : Rul) : cmpop .eq (.str r.s) (.str (PySem.Str.ofString "next")) = some (decide (r = .next)) := by cases r <;> decide +kernel
theorem eq_least (r : Rul) : cmpop .eq (.str r.s) (.str (PySem.Str.ofString "least")) = some (decide (r = .least)) := by cases r <;> decide +kernel
theorem in_turn_all (r : Rul) : cmpop .isin (.str r.s) (.tup [.str (PySem.Str.ofString "turn"), .str (PySem.Str.ofString "all")]) = some (decide (r = .turn ∨ r = .all)) := by cases r <;> decide +kernel
theorem not_rules (r : Rul) : cmpop .notin (.str r.s) (.tup [.str (PySem.Str.ofString "all"), .str (PySem.Str.ofString "least"), .str (PySem.Str.ofString "next"), .str (PySem.Str.ofString "turn")]) = some false := by cases r <;> decide +kernel
@[simp] theorem isTys_str (s : Str) (ts : List Ty) : isTys (.str s) ts = some (ts.any (isTy (.str s))) := rfl
/-- a comprehension over the places of a list, with a test -/
theorem compGo_en {t : T} {c : Ev → Store → R Bool} {F : Ev → Store → R D} {g : Nat → D} {p : Nat → Bool} {env : Ev} {st : Store} {xs : List Int} (h : ∀ i, i < xs.length → ∃ env', bindT t (.tup [.int (i : Int), .int (nth xs i)]) env = some env' ∧ c env' st = .ok (p i) st ∧ (p i = true → F env' st = .ok (g i) st)) :
    compGo t c F (((xs.map D.int).mapIdx fun i x => D.tup [.int (i : Int), x])) env st = .ok (((List.range xs.length).filter p).map g) st := by
  have e : ((xs.map D.int).mapIdx fun i x => D.tup [.int (i : Int), x]) = (List.range xs.length).map fun (i : Nat) => D.tup [.int (i : Int), .int (nth xs i)] := by
    apply List.ext_getElem
    · simp
    · intro i h1 h2
      simp only [List.getElem_mapIdx, List.getElem_map, List.getElem_range]
      rw [nth_eq]
  rw [e]
  have key : ∀ ys : List Nat, (∀ i ∈ ys, i < xs.length) → compGo t c F (ys.map fun (i : Nat) => D.tup [.int (i : Int), .int (nth xs i)]) env st = .ok ((ys.filter p).map g) st := by
    intro ys
    induction ys with
    | nil => intro _; rfl
    | cons y ys ih =>
      intro hy
      obtain ⟨env', h1, h2, h3⟩ := h y (hy y (by simp))
      have i := ih fun z hz => hy z (by simp [hz])
      rw [List.map_cons]
      unfold compGo
      rw [h1]
      simp only [h2, R.calm_ok, R.bind_ok]
      cases e : p y with
      | true => simp only [if_true, h3 e, R.calm_ok, R.bind_ok, i, List.filter_cons, e, List.map_cons]
      | false => simp only [Bool.false_eq_true, if_false, i, List.filter_cons, e]
  exact key _ fun i hi => List.mem_range.mp hi
/-- likewise over a range -/
theorem compGo_rg {t : T} {c : Ev → Store → R Bool} {F : Ev → Store → R D} {g : Nat → D} {p : Nat → Bool} {env : Ev} {st : Store} {n : Nat} (h : ∀ i, i < n → ∃ env', bindT t (.int (i : Int)) env = some env' ∧ c env' st = .ok (p i) st ∧ F env' st = .ok (g i) st) :
    compGo t c F ((List.range n).map fun (i : Nat) => .int (i : Int)) env st = .ok (((List.range n).filter p).map g) st :=
  compGo_filterA (f := fun (i : Nat) => D.int (i : Int)) (List.range n) fun i hi => h i (List.mem_range.mp hi)
theorem idx_nth {xs : List Int} {i : Nat} (h : i < xs.length) : idxD (ti xs) (.int (i : Int)) = some (.int (nth xs i)) := by
  rw [idx_items rfl, List.length_map, place_in (by omega) (by omega)]
  simp only [Int.toNat_natCast, Option.bind_some, List.getElem?_map, List.getElem?_eq_getElem h, Option.map_some, nth_eq]
theorem set_nth {xs : List Int} {n a : Nat} {f : Nat → Int} {v : Int} (hx : xs = (List.range n).map f) (ha : a < n) : xs.set a v = (List.range n).map fun i => if i = a then v else f i := by
  subst hx
  apply List.ext_getElem
  · simp
  · intro i h1 h2
    simp only [List.getElem_set, List.getElem_map, List.getElem_range]
    by_cases e : a = i
    · subst e; simp
    · rw [if_neg e, if_neg (Ne.symm e)]
theorem slice_from1t {xs : List D} (h : 1 ≤ xs.length) : sliceD (.tup xs) (some 1) none = some (.tup (xs.drop 1)) := by
  have e : clampI xs.length 1 = 1 := by
    simp only [clampI]; rw [if_neg (by decide)]; simp; omega
  simp only [sliceD, sliceL, e]
  rw [List.take_of_length_le (by simp)]
theorem slice_to1t {xs : List D} (h : 1 ≤ xs.length) : sliceD (.tup xs) none (some 1) = some (.tup (xs.take 1)) := by
  have e : clampI xs.length 1 = 1 := by
    simp only [clampI]; rw [if_neg (by decide)]; simp; omega
  simp only [sliceD, sliceL, e]
  rfl
theorem add_lst {xs ys : List D} (h : xs.length + ys.length ≤ 1000000) : binop .add (.lst xs) (.lst ys) = some (.lst (xs ++ ys)) := if_pos h
theorem wh_turn {c : Ev → Store → R Bool} {b : Ev → Store → R Fl} {env env' : Ev} {st st1 st' : Store} (h1 : c env st = .ok true st1) (h2 : b env st1 = .ok (.next env') st') : whC c b env st = whC c b env' st' := by
  rw [whC_eq, h1]; simp only [R.bind_ok, if_true, h2]
theorem wh_stop {c : Ev → Store → R Bool} {b : Ev → Store → R Fl} {env : Ev} {st st' : Store} (h1 : c env st = .ok false st') : whC c b env st = .ok (.next env) st' := by
  rw [whC_eq, h1]; simp only [R.bind_ok, Bool.false_eq_true, if_false]
/-- a while that comes to an end -/
theorem wh_ok {c : Ev → Store → R Bool} {b : Ev → Store → R Fl} {I : Nat → Ev → Store → Prop} {Q : Ev → Store → Prop} (h : ∀ m env st, I m env st → ∃ k, c env st = .ok k st ∧ (k = false → Q env st) ∧ (k = true → Ok (b env st) fun fl st2 => ∃ env2 m2, fl = .next env2 ∧ I m2 env2 st2 ∧ m2 < m)) : ∀ m env st, I m env st → Ok (whC c b env st) fun fl st' => ∃ env', fl = .next env' ∧ Q env' st' := by
  intro m
  induction m using Nat.strongRecOn with
  | ind m ih =>
    intro env st hi
    obtain ⟨k, hc, h0, h1⟩ := h m env st hi
    cases k with
    | false => rw [wh_stop hc]; exact ok_ok ⟨_, rfl, h0 rfl⟩
    | true =>
      obtain ⟨fl, st2, e, env2, m2, rfl, i2, hm⟩ := h1 rfl
      rw [wh_turn hc e]
      exact ih m2 hm env2 st2 i2
/-- the fuel of all runs here -/
abbrev KF : Nat := 4003
theorem mu_KF {xs : List Int} (h : Lot 200 xs) (r : Rul) : mu r xs ≤ KF := mu_le h r
end DD
namespace DD
/-- a line of rows, its holder's own -/
def ow (r : List Int) : W := .own (r.map .int)
theorem owns_rows (M : Mx) : ownsOf (M.map li) = some (M.map ow) := by
  induction M with
  | nil => rfl
  | cons r M ih => simp only [List.map_cons, li, ownsOf, ih]; rfl
theorem ds_rows (M : Mx) : W.ds (M.map ow) = M.map li := by
  induction M with
  | nil => rfl
  | cons r M ih => simp only [List.map_cons, W.ds, ow, W.d, ih, li]
theorem tab_nil (xs : List Int) (b : Nat) : tab xs b [] = oneM xs.length := by
  simp [tab, oneM]
theorem lat_nil (xs : List Int) (b : Nat) : lat xs b [] = xs := by
  apply List.ext_getElem
  · simp [lat]
  · intro i h1 h2
    rw [nth_eq, nth_eq, lat_nth h2, if_neg (by simp)]
theorem lat_add (xs : List Int) (b : Nat) (gs : List Nat) {a : Nat} (ha : a < xs.length) : (lat xs b gs).set a ((nth xs a).fmod (nth xs b)) = lat xs b (gs ++ [a]) := by
  rw [show (lat xs b gs).set a ((nth xs a).fmod (nth xs b)) = _ from set_nth (n := xs.length) rfl ha]
  unfold lat
  refine List.map_congr_left fun i _ => ?_
  by_cases e : i = a
  · subst e; simp
  · rw [if_neg e]
    simp [e]
theorem tab_row (xs : List Int) (b : Nat) (gs : List Nat) {a : Nat} (ha : a < xs.length) : (tab xs b gs)[a]? = some ((List.range xs.length).map fun j => if a = j then 1 else if j = b ∧ a ∈ gs then (nth xs a).fdiv (nth xs b) else 0) := by
  unfold tab
  rw [List.getElem?_map, List.getElem?_range ha]; rfl
theorem tab_add (xs : List Int) (b : Nat) (gs : List Nat) {a : Nat} (ha : a < xs.length) (hb : b < xs.length) (hab : a ≠ b) {row : List Int} (hr : (tab xs b gs)[a]? = some row) : (tab xs b gs).set a (row.set b ((nth xs a).fdiv (nth xs b))) = tab xs b (gs ++ [a]) := by
  rw [tab_row xs b gs ha] at hr
  cases hr
  rw [set_nth (n := xs.length) rfl hb]
  apply List.ext_getElem
  · simp [tab]
  · intro i h1 h2
    have hi : i < xs.length := by simpa [tab] using h2
    rw [List.getElem_set]
    simp only [tab, List.getElem_map, List.getElem_range]
    by_cases e : a = i
    · subst e
      rw [if_pos rfl]
      refine List.map_congr_left fun j _ => ?_
      by_cases e1 : j = b
      · subst e1
        rw [if_pos rfl, if_neg hab, if_pos ⟨rfl, by simp⟩]
      · rw [if_neg e1]
        simp [e1]
    · rw [if_neg e]
      refine List.map_congr_left fun j _ => ?_
      simp [Ne.symm e]
end DD
namespace DD
theorem eqD_refl : ∀ (n : Nat) (d : D), shal n d = true → eqD d d = true
  | _, .non, _ => rfl
  | _, .bool b, _ => by simp [eqD]
  | _, .int i, _ => by simp [eqD]
  | _, .str s, _ => by simp [eqD]
  | 0, .tup xs, h => by simp [shal] at h
  | 0, .lst xs, h => by simp [shal] at h
  | n + 1, .tup xs, h => by
    simp only [shal, List.all_eq_true] at h
    simp only [eqD]
    induction xs with
    | nil => rfl
    | cons x xs ih =>
      simp only [eqDs, Bool.and_eq_true]
      exact ⟨eqD_refl n x (h x (by simp)), ih fun y hy => h y (by simp [hy])⟩
  | n + 1, .lst xs, h => by
    simp only [shal, List.all_eq_true] at h
    simp only [eqD]
    induction xs with
    | nil => rfl
    | cons x xs ih =>
      simp only [eqDs, Bool.and_eq_true]
      exact ⟨eqD_refl n x (h x (by simp)), ih fun y hy => h y (by simp [hy])⟩
  | n, .dic ks vs, h => by cases n <;> simp [shal] at h
  | n, .ldic ks vs, h => by cases n <;> simp [shal] at h
  | n, .ref k, h => by cases n <;> simp [shal] at h
  | n, .scr xs, h => by cases n <;> simp [shal] at h
theorem ne_refl {d : D} (h : shal 12 d = true) : cmpop .ne d d = some false := by
  simp only [cmpop, h, eqD_refl 12 d h, Bool.and_self, if_true, Bool.not_true]
theorem eq_refl' {d : D} (h : shal 12 d = true) : cmpop .eq d d = some true := by
  simp only [cmpop, h, eqD_refl 12 d h, Bool.and_self, if_true]
theorem shal_tbs (Ts : List Mx) : shal 12 (.lst (Ts.map tb)) = true := by
  simp only [shal, List.all_map, List.all_eq_true]
  intro T _
  exact shal_tb 9 T
theorem ne_nil_tbs (Ts : List Mx) : cmpop .ne (.lst (Ts.map tb)) (.lst []) = some (!Ts.isEmpty) := by
  have h0 : shal 12 (.lst []) = true := rfl
  cases Ts with
  | nil => rfl
  | cons T Ts =>
    have h := shal_tbs (T :: Ts)
    simp only [List.map_cons] at h
    simp only [cmpop, List.map_cons, h, h0, Bool.and_self, if_true, eqD, eqDs, Bool.not_false, List.isEmpty_cons]
theorem idx_lastD {α : Type} (f : α → D) (as : List α) (y : α) : idxD (.lst ((as ++ [y]).map f)) (.int (-1)) = some (f y) := by
  have : ((-1 : Int) + ((as.length : Int) + 1)) = (as.length : Int) := by omega
  simp [idxD, place, this]
theorem idx_get {α : Type} (f : α → D) {as : List α} {i : Nat} {y : α} (h : as[i]? = some y) : idxD (.lst (as.map f)) (.int (i : Int)) = some (f y) := by
  have hi := (List.getElem?_eq_some_iff.mp h).1
  rw [idx_items rfl, List.length_map, place_in (by omega) (by omega)]
  simp [h]
end DD

set_option Elab.async false
set_option linter.all false
set_option maxRecDepth 100000
set_option maxHeartbeats 1000000
/-! plain lemmas about nearest ones: no program in sight -/
namespace DD
open PySem (Str)
theorem Pt.lot {ys : List Int} {z : Int} (h : Pt ys z) : Lot 200 (ys ++ [z]) := by
  have l1 := h.l1; have l3 := h.l3; have zp := h.zp
  refine ⟨by simp; omega, by simp; omega, fun x hx => ?_, ⟨z, by simp, zp⟩, fun x hx => ?_⟩
  · rcases List.mem_append.mp hx with hx | hx
    · exact h.nn x hx
    · rw [List.mem_singleton.mp hx]; omega
  · rcases List.mem_append.mp hx with hx | hx
    · exact h.sm x hx
    · rw [List.mem_singleton.mp hx]; exact h.zs
/-! the worst -/
theorem wst_ok {ys : List Int} {z b : Int} (h : Pt ys z) : wstv ys z b ∈ (ys.map (errv b z)).map absv ∧ ∀ y ∈ ys, absv (errv b z y) ≤ wstv ys z b := by
  have ne : (ys.map (errv b z)).map absv ≠ [] := by
    intro e
    have := congrArg List.length e
    have l1 := h.l1
    simp at this; rw [this] at l1; simp at l1
  obtain ⟨m, em, hm, hle⟩ := maxI_ok ne
  have e : wstv ys z b = m := by unfold wstv; rw [em]; rfl
  rw [e]
  refine ⟨hm, fun y hy => hle _ ?_⟩
  exact List.mem_map.mpr ⟨_, List.mem_map.mpr ⟨y, hy, rfl⟩, rfl⟩
theorem abs_half {b z p : Int} (zp : 0 < z) (hN : 0 ≤ b * p) : 2 * absv (errv b z p) ≤ z ∧ 0 ≤ absv (errv b z p) := by
  rw [abs_err zp hN]
  have d2 := Int.fmod_nonneg_of_pos (b * p) zp
  have d3 := Int.fmod_lt_of_pos (b * p) zp
  split <;> omega
theorem wst_half {ys : List Int} {z b : Int} (h : Pt ys z) (hb : 1 ≤ b) : 2 * wstv ys z b ≤ z ∧ 0 ≤ wstv ys z b := by
  obtain ⟨hm, _⟩ := wst_ok (b := b) h
  obtain ⟨e, he, ee⟩ := List.mem_map.mp hm
  obtain ⟨y, hy, rfl⟩ := List.mem_map.mp he
  rw [← ee]
  exact abs_half h.zp (Int.mul_nonneg (by omega) (h.nn y hy))
theorem wst_zero {ys : List Int} {z : Int} (h : Pt ys z) {b : Int} (hb : 1 ≤ b) (hd : ∀ y ∈ ys, z ∣ b * y) : wstv ys z b = 0 := by
  obtain ⟨hm, _⟩ := wst_ok (b := b) h
  obtain ⟨e, he, ee⟩ := List.mem_map.mp hm
  obtain ⟨y, hy, rfl⟩ := List.mem_map.mp he
  rw [← ee, abs_err h.zp (Int.mul_nonneg (by omega) (h.nn y hy))]
  have : (b * y).fmod z = 0 := by
    rw [Int.fmod_eq_emod_of_nonneg _ (by have := h.zp; omega)]
    exact Int.emod_eq_zero_of_dvd (hd y hy)
  rw [this]
  have := h.zp
  split <;> omega
/-! some bottom is near -/
theorem pigeon : ∀ (m : Nat) (f : Nat → Nat), (∀ i, i ≤ m → f i < m) → ∃ i j, i < j ∧ j ≤ m ∧ f i = f j := by
  intro m
  induction m with
  | zero => intro f h; have := h 0 (Nat.le_refl _); omega
  | succ m ih =>
    intro f h
    refine Classical.byContradiction fun hn => ?_
    have inj : ∀ i j, i ≤ m + 1 → j ≤ m + 1 → f i = f j → i = j := by
      intro i j hi hj e
      rcases Nat.lt_trichotomy i j with l | l | l
      · exact absurd ⟨i, j, l, hj, e⟩ hn
      · exact l
      · exact absurd ⟨j, i, l, hi, e.symm⟩ hn
    -- leave out what the last one has
    let v := f (m + 1)
    obtain ⟨i, j, h1, h2, h3⟩ := ih (fun i => if f i < v then f i else f i - 1) (fun i hi => by
      have a := h i (by omega)
      have b := h (m + 1) (Nat.le_refl _)
      have ne : f i ≠ v := fun e => by have := inj i (m + 1) (by omega) (Nat.le_refl _) e; omega
      show (if f i < v then f i else f i - 1) < m
      split <;> omega)
    have ni : f i ≠ v := fun e => by have := inj i (m + 1) (by omega) (Nat.le_refl _) e; omega
    have nj : f j ≠ v := fun e => by have := inj j (m + 1) (by omega) (Nat.le_refl _) e; omega
    have : f i = f j := by
      have h3' : (if f i < v then f i else f i - 1) = (if f j < v then f j else f j - 1) := h3
      split at h3' <;> split at h3' <;> omega
    have := inj i j (by omega) (by omega) this
    omega
/-- the box of a bottom -/
def dig (N : Nat) (z b y : Int) : Nat := ((N : Int) * (b * y).fmod z / z).toNat
def box (N : Nat) (z b : Int) : List Int → Nat
  | [] => 0
  | y :: ys => dig N z b y + N * box N z b ys
theorem dig_lt {N : Nat} (hN : 1 ≤ N) {z : Int} (zp : 0 < z) (b y : Int) : dig N z b y < N := by
  have d2 := Int.fmod_nonneg_of_pos (b * y) zp
  have d3 := Int.fmod_lt_of_pos (b * y) zp
  unfold dig
  have h1 : (N : Int) * (b * y).fmod z / z < N := Int.ediv_lt_of_lt_mul zp (Int.mul_lt_mul_of_pos_left d3 (by omega))
  have h0 : 0 ≤ (N : Int) * (b * y).fmod z / z := Int.ediv_nonneg (Int.mul_nonneg (by omega) d2) (by omega)
  omega
theorem box_lt {N : Nat} (hN : 1 ≤ N) {z : Int} (zp : 0 < z) (b : Int) : ∀ ys : List Int, box N z b ys < N ^ ys.length
  | [] => by simp [box]
  | y :: ys => by
    have i := box_lt hN zp b ys
    have d := dig_lt hN zp b y
    simp only [box, List.length_cons, Nat.pow_succ]
    have : N * (box N z b ys + 1) ≤ N * N ^ ys.length := Nat.mul_le_mul_left _ i
    rw [Nat.mul_comm (N ^ ys.length) N, Nat.mul_add] at *
    omega
theorem box_eq {N : Nat} (hN : 1 ≤ N) {z : Int} (zp : 0 < z) {b c : Int} : ∀ {ys : List Int}, box N z b ys = box N z c ys → ∀ y ∈ ys, dig N z b y = dig N z c y
  | [], _, _, h => by cases h
  | y :: ys, e, x, h => by
    simp only [box] at e
    have d1 := dig_lt hN zp b y
    have d2 := dig_lt hN zp c y
    have m1 : (dig N z b y + N * box N z b ys) % N = dig N z b y := by rw [Nat.add_mul_mod_self_left, Nat.mod_eq_of_lt d1]
    have m2 : (dig N z c y + N * box N z c ys) % N = dig N z c y := by rw [Nat.add_mul_mod_self_left, Nat.mod_eq_of_lt d2]
    have e1 : dig N z b y = dig N z c y := by rw [← m1, ← m2, e]
    have e2 : box N z b ys = box N z c ys := by
      have : N * box N z b ys = N * box N z c ys := by omega
      exact Nat.eq_of_mul_eq_mul_left (by omega) this
    rcases List.mem_cons.mp h with rfl | h
    · exact e1
    · exact box_eq hN zp e2 x h
theorem dig_near {N : Nat} {z : Int} (zp : 0 < z) {b c y : Int} (hb : 0 ≤ b) (hbc : b < c) (hy : 0 ≤ y) (e : dig N z b y = dig N z c y) : absv (errv (c - b) z y) * N ≤ z := by
  have hN : 0 ≤ (c - b) * y := Int.mul_nonneg (by omega) hy
  rw [abs_err zp hN]
  have r2 := Int.fmod_nonneg_of_pos (b * y) zp
  have r3 := Int.fmod_lt_of_pos (b * y) zp
  have s2 := Int.fmod_nonneg_of_pos (c * y) zp
  have s3 := Int.fmod_lt_of_pos (c * y) zp
  have d1 := Int.fmod_add_mul_fdiv (b * y) z
  have d2 := Int.fmod_add_mul_fdiv (c * y) z
  have d3 := Int.fmod_add_mul_fdiv ((c - b) * y) z
  have t2 := Int.fmod_nonneg_of_pos ((c - b) * y) zp
  have t3 := Int.fmod_lt_of_pos ((c - b) * y) zp
  have ed : (c - b) * y = c * y - b * y := Int.sub_mul _ _ _
  unfold dig at e
  have n1 : 0 ≤ (N : Int) * (b * y).fmod z := Int.mul_nonneg (by omega) r2
  have n2 : 0 ≤ (N : Int) * (c * y).fmod z := Int.mul_nonneg (by omega) s2
  have e' : (N : Int) * (b * y).fmod z / z = (N : Int) * (c * y).fmod z / z := by
    have a1 := Int.ediv_nonneg n1 (show 0 ≤ z by omega)
    have a2 := Int.ediv_nonneg n2 (show 0 ≤ z by omega)
    omega
  have q1 := Int.mul_ediv_add_emod ((N : Int) * (b * y).fmod z) z
  have q2 := Int.mul_ediv_add_emod ((N : Int) * (c * y).fmod z) z
  have q3 := Int.emod_nonneg ((N : Int) * (b * y).fmod z) (show z ≠ 0 by omega)
  have q4 := Int.emod_lt_of_pos ((N : Int) * (b * y).fmod z) zp
  have q5 := Int.emod_nonneg ((N : Int) * (c * y).fmod z) (show z ≠ 0 by omega)
  have q6 := Int.emod_lt_of_pos ((N : Int) * (c * y).fmod z) zp
  rw [← e'] at q2
  -- the difference of the two rests
  have key : ∃ k : Int, ((c - b) * y).fmod z = (c * y).fmod z - (b * y).fmod z + z * k := by
    refine ⟨(c * y).fdiv z - (b * y).fdiv z - ((c - b) * y).fdiv z, ?_⟩
    rw [Int.mul_sub, Int.mul_sub]
    omega
  obtain ⟨k, hk⟩ := key
  generalize ((c - b) * y).fmod z = t at *
  generalize (c * y).fmod z = s at *
  generalize (b * y).fmod z = r at *
  have hk2 : k = 0 ∨ k = 1 := by
    rcases (show k < 0 ∨ 0 ≤ k by omega) with l | l
    · have := Int.mul_le_mul_of_nonneg_left (show k ≤ -1 by omega) (show 0 ≤ z by omega)
      omega
    · rcases (show 1 < k ∨ k ≤ 1 by omega) with l2 | l2
      · have := Int.mul_le_mul_of_nonneg_left (show 2 ≤ k by omega) (show 0 ≤ z by omega)
        omega
      · omega
  have key2 : ∀ w : Int, (w = s - r ∨ w = r - s) → w * N ≤ z := by
    intro w hw
    have e1 : (N : Int) * s - (N : Int) * r < z := by omega
    have e2 : (N : Int) * r - (N : Int) * s < z := by omega
    rcases hw with rfl | rfl
    · rw [Int.sub_mul, Int.mul_comm s, Int.mul_comm r]; omega
    · rw [Int.sub_mul, Int.mul_comm s, Int.mul_comm r]; omega
  rcases hk2 with rfl | rfl
  · have ht : t = s - r := by omega
    split
    · rename_i h1
      have := key2 t (.inl ht)
      have := Int.mul_le_mul_of_nonneg_right (show z - t ≤ t by omega) (show (0:Int) ≤ N by omega)
      omega
    · exact key2 t (.inl ht)
  · have ht : t = s - r + z := by omega
    split
    · exact key2 (z - t) (.inr (by omega))
    · rename_i h1
      have := key2 (z - t) (.inr (by omega))
      have := Int.mul_le_mul_of_nonneg_right (show t ≤ z - t by omega) (show (0:Int) ≤ N by omega)
      omega
theorem near {ys : List Int} {z : Int} (h : Pt ys z) {N : Nat} (hN : 1 ≤ N) : ∃ b : Nat, 1 ≤ b ∧ b ≤ N ^ ys.length ∧ wstv ys z b * N ≤ z := by
  obtain ⟨i, j, h1, h2, h3⟩ := pigeon (N ^ ys.length) (fun b => box N z b ys) fun b _ => box_lt hN h.zp b ys
  refine ⟨j - i, by omega, by omega, ?_⟩
  obtain ⟨hm, _⟩ := wst_ok (b := ((j - i : Nat) : Int)) h
  obtain ⟨e, he, ee⟩ := List.mem_map.mp hm
  obtain ⟨y, hy, rfl⟩ := List.mem_map.mp he
  rw [← ee, show ((j - i : Nat) : Int) = (j : Int) - (i : Int) by omega]
  exact dig_near h.zp (by omega) (by omega) (h.nn y hy) (box_eq hN h.zp h3 y hy)
/-! records -/
theorem recs_least (wv : Int → Int) : ∀ (k b : Nat), 1 ≤ b → b ≤ k → ∃ p ∈ recs wv k, p.2 ≤ wv b
  | 0, b, h1, h2 => by omega
  | k + 1, b, h1, h2 => by
    unfold recs
    by_cases hc : ((recs wv k).all fun p => decide (wv (k + 1) < p.2)) = true
    · rw [if_pos hc]
      by_cases e : b = k + 1
      · subst e
        exact ⟨_, List.mem_append_right _ (List.mem_singleton.mpr rfl), Int.le_refl _⟩
      · obtain ⟨p, hp, hl⟩ := recs_least wv k b h1 (by omega)
        exact ⟨p, List.mem_append_left _ hp, hl⟩
    · rw [if_neg hc]
      by_cases e : b = k + 1
      · subst e
        rw [Bool.not_eq_true, List.all_eq_false] at hc
        obtain ⟨p, hp, hl⟩ := hc
        refine ⟨p, hp, ?_⟩
        have : ¬ (wv (k + 1) < p.2) := by simpa using hl
        show p.2 ≤ wv ((k + 1 : Nat) : Int)
        rw [show ((k + 1 : Nat) : Int) = (k : Int) + 1 by simp]
        omega
      · exact recs_least wv k b h1 (by omega)
structure RecsOk (wv : Int → Int) (k : Nat) (l : List (Int × Int)) : Prop where
  fst : l[0]? = some (1, wv 1)
  all : ∀ p ∈ l, p.2 = wv p.1 ∧ 1 ≤ p.1 ∧ p.1 ≤ k
  nx : ∀ i p q, l[i]? = some p → l[i + 1]? = some q → q.2 < p.2 ∧ p.1 < q.1 ∧ ∀ b : Int, p.1 < b → b < q.1 → p.2 ≤ wv b
  last : ∃ init t, l = init ++ [t] ∧ ∀ b : Int, t.1 < b → b ≤ k → t.2 ≤ wv b
theorem recs_ok (wv : Int → Int) : ∀ k : Nat, RecsOk wv (k + 1) (recs wv (k + 1))
  | 0 => by
    have e : recs wv 1 = [(1, wv 1)] := by simp [recs]
    rw [e]
    refine ⟨rfl, by simp, ?_, [], (1, wv 1), rfl, fun b h1 h2 => ?_⟩
    · intro i p q h1 h2
      simp at h2
    · have h1' : (1 : Int) < b := h1
      have h2' : b ≤ 1 := h2
      omega
  | k + 1 => by
    have ih := recs_ok wv k
    obtain ⟨init, t, e, ht⟩ := ih.last
    have ec := recs_cond wv (k + 1) e (wv ((k + 1 : Nat) + 1))
    show RecsOk wv (k + 1 + 1) (if (recs wv (k + 1)).all (fun p => decide (wv ((k + 1 : Nat) + 1) < p.2)) then recs wv (k + 1) ++ [(((k + 1 : Nat) : Int) + 1, wv ((k + 1 : Nat) + 1))] else recs wv (k + 1))
    rw [ec]
    by_cases hc : wv ((k + 1 : Nat) + 1) < t.2
    · rw [if_pos (by simpa using hc)]
      have lt : t ∈ recs wv (k + 1) := by rw [e]; simp
      refine ⟨?_, fun p hp => ?_, fun i p q h1 h2 => ?_, recs wv (k + 1), _, rfl, fun b h1 h2 => ?_⟩
      · have := ih.fst
        rw [List.getElem?_append_left (by rw [e]; simp)]; exact this
      · rcases List.mem_append.mp hp with hp | hp
        · have := ih.all p hp
          exact ⟨this.1, this.2.1, by omega⟩
        · rw [List.mem_singleton.mp hp]
          exact ⟨rfl, by show (1:Int) ≤ ((k + 1 : Nat) : Int) + 1; omega, by show ((k + 1 : Nat) : Int) + 1 ≤ ((k + 1 + 1 : Nat) : Int); omega⟩
      · have ln : (recs wv (k + 1)).length = init.length + 1 := by rw [e]; simp
        rcases Nat.lt_or_ge (i + 1) (recs wv (k + 1)).length with l | l
        · rw [List.getElem?_append_left (by omega)] at h1
          rw [List.getElem?_append_left l] at h2
          exact ih.nx i p q h1 h2
        · have hi : i + 1 = (recs wv (k + 1)).length := by
            rcases Nat.lt_or_ge (recs wv (k + 1)).length (i + 1) with l2 | l2
            · rw [List.getElem?_eq_none (by simp; omega)] at h2; cases h2
            · omega
          rw [List.getElem?_append_left (by omega)] at h1
          rw [List.getElem?_append_right (by omega), show i + 1 - (recs wv (k + 1)).length = 0 by omega] at h2
          have hp : p = t := by
            rw [e, List.getElem?_append_right (by omega), show i - init.length = 0 by omega] at h1
            simpa using h1.symm
          have hq : q = (((k + 1 : Nat) : Int) + 1, wv ((k + 1 : Nat) + 1)) := by simpa using h2.symm
          subst hp hq
          have ha := ih.all _ lt
          refine ⟨hc, ?_, fun b b1 b2 => ht b b1 ?_⟩
          · show p.1 < ((k + 1 : Nat) : Int) + 1
            omega
          · have : b < ((k + 1 : Nat) : Int) + 1 := b2
            omega
      · exfalso
        have h1' : ((k + 1 : Nat) : Int) + 1 < b := h1
        have h2' : b ≤ ((k + 1 + 1 : Nat) : Int) := h2
        omega
    · rw [if_neg (by simpa using hc)]
      refine ⟨ih.fst, fun p hp => ?_, ih.nx, init, t, e, fun b h1 h2 => ?_⟩
      · have := ih.all p hp
        exact ⟨this.1, this.2.1, by omega⟩
      · by_cases eb : b = ((k + 1 : Nat) : Int) + 1
        · rw [eb]; omega
        · exact ht b h1 (by omega)
end DD

set_option Elab.async false
set_option linter.all false
set_option maxRecDepth 100000
set_option maxHeartbeats 1000000
/-! columns -/
namespace DD
open PySem (Str)
theorem eqDs_iff : ∀ (xs ys : List Int), eqDs (xs.map .int) (ys.map .int) = decide (xs = ys)
  | [], [] => rfl
  | [], y :: ys => rfl
  | x :: xs, [] => rfl
  | x :: xs, y :: ys => by
    simp only [List.map_cons, eqDs, eqD, eqDs_iff xs ys]
    by_cases e : x = y
    · subst e; simp
    · simp [e]
theorem eq_ti (xs ys : List Int) : eqD (ti xs) (ti ys) = decide (xs = ys) := by
  simp only [ti, eqD]; exact eqDs_iff xs ys
theorem shal_tis (f : List (List Int)) : (f.map ti).all (shal 12) = true := by
  rw [List.all_map, List.all_eq_true]
  intro x _
  exact shal_ti 11 x
theorem notin_tis (c : List Int) (f : List (List Int)) : cmpop .notin (ti c) (.lst (f.map ti)) = some (!decide (c ∈ f)) := by
  have e : (f.map ti).any (fun x => eqD x (ti c)) = decide (c ∈ f) := by
    rw [Bool.eq_iff_iff, List.any_eq_true, decide_eq_true_eq]
    constructor
    · rintro ⟨x, hx, he⟩
      obtain ⟨y, hy, rfl⟩ := List.mem_map.mp hx
      rw [eq_ti, decide_eq_true_eq] at he
      subst he; exact hy
    · intro h
      exact ⟨ti c, List.mem_map.mpr ⟨c, h, rfl⟩, by rw [eq_ti]; simp⟩
  simp only [cmpop, isIn, shal_ti 11 c, shal_tis, Bool.and_self, if_true, Option.map_some, e]
theorem eq_nil_tis (f : List (List Int)) : cmpop .eq (.lst (f.map ti)) (.lst []) = some f.isEmpty := by
  have h0 : shal 12 (.lst []) = true := rfl
  have h1 : shal 12 (.lst (f.map ti)) = true := by
    simp only [shal, List.all_map, List.all_eq_true]
    intro x _
    exact shal_ti 10 x
  simp only [cmpop, h0, h1, Bool.and_self, if_true]
  cases f <;> simp [eqD, eqDs]
theorem ne_nil_tis (f : List (List Int)) : cmpop .ne (.lst (f.map ti)) (.lst []) = some (!f.isEmpty) := by
  have h0 : shal 12 (.lst []) = true := rfl
  have h1 : shal 12 (.lst (f.map ti)) = true := by
    simp only [shal, List.all_map, List.all_eq_true]
    intro x _
    exact shal_ti 10 x
  simp only [cmpop, h0, h1, Bool.and_self, if_true]
  cases f <;> simp [eqD, eqDs]
theorem idx_lastI {c : List Int} (h : 1 ≤ c.length) : idxD (ti c) (.int (-1)) = some (.int (nth c (c.length - 1))) := by
  rw [idx_items rfl, List.length_map]
  have e : place c.length (-1) = some (c.length - 1) := by
    unfold place
    rw [if_neg (by decide), if_pos (by omega)]
    congr 1; omega
  rw [e, Option.bind_some, List.getElem?_map, List.getElem?_eq_getElem (by omega), Option.map_some, nth_eq]
/-- a column is told -/
def addC (f : List (List Int)) (c : List Int) : List (List Int) := if nth c (c.length - 1) ≠ 0 ∧ c ∉ f then f ++ [c] else f
def addCs (W : Mx) (f : List (List Int)) : List Nat → List (List Int)
  | [] => f
  | j :: js => addCs W (addC f (colM W j)) js
def colGo (n : Nat) : List Mx → Mx → List (List Int) → List (List Int)
  | [], _, f => f
  | T :: Ts, W, f => colGo n Ts (mulM W T) (addCs (mulM W T) f (List.range n))
theorem addC_sub {f : List (List Int)} {c x : List Int} (h : x ∈ f) : x ∈ addC f c := by
  unfold addC; split
  · exact List.mem_append_left _ h
  · exact h
theorem addC_in {f : List (List Int)} {c : List Int} (h : nth c (c.length - 1) ≠ 0) : c ∈ addC f c := by
  unfold addC
  by_cases e : c ∈ f
  · rw [if_neg (fun z => z.2 e)]; exact e
  · rw [if_pos ⟨h, e⟩]; simp
theorem addC_len (f : List (List Int)) (c : List Int) : (addC f c).length ≤ f.length + 1 := by
  unfold addC; split <;> simp
theorem addCs_sub {W : Mx} : ∀ {js : List Nat} {f : List (List Int)} {x : List Int}, x ∈ f → x ∈ addCs W f js
  | [], _, _, h => h
  | j :: js, _, _, h => addCs_sub (js := js) (addC_sub h)
theorem addCs_in {W : Mx} : ∀ {js : List Nat} {f : List (List Int)} {j : Nat}, j ∈ js → nth (colM W j) ((colM W j).length - 1) ≠ 0 → colM W j ∈ addCs W f js
  | k :: js, f, j, h, h0 => by
    rcases List.mem_cons.mp h with rfl | h
    · show _ ∈ addCs W (addC f (colM W j)) js
      exact addCs_sub (addC_in h0)
    · show _ ∈ addCs W (addC f (colM W k)) js
      exact addCs_in h h0
theorem addCs_len {W : Mx} : ∀ (js : List Nat) (f : List (List Int)), (addCs W f js).length ≤ f.length + js.length
  | [], f => Nat.le_refl _
  | j :: js, f => by
    have h1 := addCs_len (W := W) js (addC f (colM W j))
    have h2 := addC_len f (colM W j)
    simp only [addCs, List.length_cons]; omega
theorem addCs_append {W : Mx} : ∀ (js : List Nat) (f : List (List Int)) (j : Nat), addCs W f (js ++ [j]) = addC (addCs W f js) (colM W j)
  | [], f, j => rfl
  | k :: js, f, j => by simp only [List.cons_append, addCs]; exact addCs_append js _ j
theorem colGo_sub {n : Nat} : ∀ {Ts : List Mx} {W : Mx} {f : List (List Int)} {x : List Int}, x ∈ f → x ∈ colGo n Ts W f
  | [], _, _, _, h => h
  | T :: Ts, _, _, _, h => colGo_sub (Ts := Ts) (addCs_sub h)
theorem colGo_last {n : Nat} : ∀ {Ts : List Mx} {W : Mx} {f : List (List Int)} {j : Nat}, Ts ≠ [] → j < n → nth (colM (Ts.foldl mulM W) j) ((colM (Ts.foldl mulM W) j).length - 1) ≠ 0 → colM (Ts.foldl mulM W) j ∈ colGo n Ts W f
  | [], _, _, _, h, _, _ => absurd rfl h
  | [T], W, f, j, _, hj, h0 => by
    show _ ∈ addCs (mulM W T) f (List.range n)
    exact addCs_in (List.mem_range.mpr hj) h0
  | T :: U :: Ts, W, f, j, _, hj, h0 => colGo_last (Ts := U :: Ts) (W := mulM W T) (by simp) hj h0
theorem colGo_append {n : Nat} : ∀ (Ts : List Mx) (W : Mx) (f : List (List Int)) (T : Mx), colGo n (Ts ++ [T]) W f = addCs (mulM (Ts.foldl mulM W) T) (colGo n Ts W f) (List.range n)
  | [], W, f, T => rfl
  | U :: Ts, W, f, T => by simp only [List.cons_append, colGo, List.foldl_cons]; exact colGo_append Ts _ _ T
theorem colGo_len {n : Nat} : ∀ (Ts : List Mx) (W : Mx) (f : List (List Int)), (colGo n Ts W f).length ≤ f.length + n * Ts.length
  | [], _, f => by simp [colGo]
  | T :: Ts, W, f => by
    have h1 := colGo_len (n := n) Ts (mulM W T) (addCs (mulM W T) f (List.range n))
    have h2 := addCs_len (W := mulM W T) (List.range n) f
    rw [List.length_range] at h2
    simp only [colGo, List.length_cons, Nat.mul_succ]; omega
/-- the columns of a lot by a rule -/
def cols (r : Rul) (xs : List Int) : List (List Int) := colGo xs.length (tabs r KF xs) (oneM xs.length) []
/-! the lot through its common -/
theorem sum_le_ofI {f g : Nat → Int} : ∀ {xs : List Nat}, (∀ a ∈ xs, f a ≤ g a) → (xs.map f).sum ≤ (xs.map g).sum
  | [], _ => Int.le_refl _
  | x :: xs, h => by
    have h1 := h x (by simp)
    have h2 := sum_le_ofI (xs := xs) fun a ha => h a (by simp [ha])
    simp only [List.map_cons, List.sum_cons]; omega
theorem as_range (xs : List Int) : (List.range xs.length).map (nth xs) = xs := by
  apply List.ext_getElem
  · simp
  · intro i h1 h2
    simp only [List.getElem_map, List.getElem_range]
    rw [nth_eq]
theorem end_one {b : Nat} {z : List Int} (h : Lot b z) (he : ended z = true) : ∃ p, p < z.length ∧ nth z p = (gcdN z : Int) ∧ ∀ i, i < z.length → i ≠ p → nth z i = 0 := by
  have es := end_sum h he
  obtain ⟨x, hx, hx0⟩ := h.ps
  obtain ⟨p, hp, rfl⟩ := mem_nth hx
  have hz : ∀ i, i < z.length → i ≠ p → nth z i = 0 := by
    intro i hi hip
    have hi0 := h.nn _ (nth_mem hi)
    refine Classical.byContradiction fun hn => ?_
    have d1 : ((gcdN z : Nat) : Int) ∣ nth z i := dvd_gcdN.mp (Nat.dvd_refl _) _ (nth_mem hi)
    have l1 : ((gcdN z : Nat) : Int) ≤ nth z i := Int.le_of_dvd (by omega) d1
    have l2 : nth z i + nth z p ≤ z.sum := by
      have e1 : z.sum = ((List.range z.length).map (nth z)).sum := by rw [as_range]
      rw [e1]
      have s1 := sum_single i (fun _ => nth z i) z.length
      have s2 := sum_single p (fun _ => nth z p) z.length
      rw [if_pos hi] at s1
      rw [if_pos hp] at s2
      have s3 := sum_add (fun j => if j = i then nth z i else 0) (fun j => if j = p then nth z p else 0) (List.range z.length)
      rw [s1, s2] at s3
      rw [← s3]
      refine sum_le_ofI fun a ha => ?_
      have ha0 := h.nn _ (nth_mem (List.mem_range.mp ha))
      show (if a = i then nth z i else 0) + (if a = p then nth z p else 0) ≤ nth z a
      by_cases e1 : a = i
      · subst e1
        rw [if_pos rfl, if_neg hip]; omega
      · rw [if_neg e1]
        by_cases e2 : a = p
        · subst e2; rw [if_pos rfl]; omega
        · rw [if_neg e2]; omega
    omega
  refine ⟨p, hp, ?_, hz⟩
  have e1 : z.sum = ((List.range z.length).map (nth z)).sum := by rw [as_range]
  have e2 : ((List.range z.length).map (nth z)) = (List.range z.length).map fun j => if j = p then nth z j else 0 := by
    refine List.map_congr_left fun j hj => ?_
    by_cases e : j = p
    · rw [if_pos e]
    · rw [if_neg e]; exact hz j (List.mem_range.mp hj) e
  rw [e2, sum_single p (nth z), if_pos hp] at e1
  omega
theorem dot_one {r z : List Int} {p : Nat} (hl : r.length = z.length) (hp : p < z.length) (hz : ∀ i, i < z.length → i ≠ p → nth z i = 0) : dot r z = nth r p * nth z p := by
  have e1 := dot_range (nth r) (nth z) z.length
  rw [as_range, ← hl, as_range] at e1
  rw [e1]
  have e2 : ((List.range r.length).map fun j => nth r j * nth z j) = (List.range r.length).map fun j => if j = p then nth r j * nth z j else 0 := by
    refine List.map_congr_left fun j hj => ?_
    by_cases e : j = p
    · rw [if_pos e]
    · rw [if_neg e, hz j (by rw [← hl]; exact List.mem_range.mp hj) e]; simp
  rw [e2, sum_single p (fun j => nth r j * nth z j), if_pos (by omega)]
/-- the lot through its common is a column of the whole -/
theorem lot_col {r : Rul} {xs : List Int} (h : Lot 200 xs) : ∃ p, p < xs.length ∧ colM (whole xs.length (tabs r KF xs)) p = xs.map fun x => x.fdiv (gcdN xs) := by
  have ro := run_ok (by decide) r KF xs h (mu_KF h r)
  obtain ⟨init, z, lst, ez, lz⟩ := ro.last
  obtain ⟨Lz, nz, gz⟩ := ro.lots z (by rw [lst]; simp)
  obtain ⟨p, hp, hg, hz⟩ := end_one Lz ez
  rw [gz] at hg
  refine ⟨p, by omega, ?_⟩
  have gp : 0 < (gcdN xs : Int) := by
    rw [← hg]
    have h0 := Lz.nn _ (nth_mem hp)
    obtain ⟨x, hx, hx0⟩ := Lz.ps
    obtain ⟨i, hi, rfl⟩ := mem_nth hx
    by_cases e : i = p
    · subst e; exact hx0
    · rw [hz i hi e] at hx0; omega
  have e1 : xs.map (fun x => x.fdiv (gcdN xs)) = (ledM (whole xs.length (tabs r KF xs)) z).map fun x => x.fdiv (gcdN xs) := by rw [lz]
  rw [e1]
  unfold colM ledM
  rw [List.map_map]
  refine List.map_congr_left fun q hq => ?_
  show q.getD p 0 = (dot q z).fdiv (gcdN xs)
  rw [dot_one (by rw [ro.fair.s.r q hq, nz]) hp hz, hg, Int.fdiv_eq_ediv_of_nonneg _ (by omega), Int.mul_ediv_cancel _ (by omega)]
  rfl
theorem gcd_pos {b : Nat} {xs : List Int} (h : Lot b xs) : 0 < gcdN xs := by
  obtain ⟨x, hx, hx0⟩ := h.ps
  have d := dvd_gcdN.mp (Nat.dvd_refl (gcdN xs)) x hx
  rcases Nat.eq_zero_or_pos (gcdN xs) with e | e
  · rw [e] at d
    obtain ⟨k, hk⟩ := d
    simp at hk
    omega
  · exact e
theorem cols_lot {r : Rul} {ys : List Int} {z : Int} (h : Pt ys z) (he : ended (ys ++ [z]) = false) : ((ys ++ [z]).map fun x => x.fdiv (gcdN (ys ++ [z]))) ∈ cols r (ys ++ [z]) := by
  obtain ⟨p, hp, e⟩ := lot_col (r := r) h.lot
  rw [← e]
  have hT : tabs r KF (ys ++ [z]) ≠ [] := by
    show (if _ then _ else _) ≠ _
    rw [he]; simp
  refine colGo_last hT hp ?_
  rw [show (tabs r KF (ys ++ [z])).foldl mulM (oneM (ys ++ [z]).length) = whole (ys ++ [z]).length (tabs r KF (ys ++ [z])) from rfl, e]
  have gp := gcd_pos h.lot
  have zp := h.zp
  rw [List.map_append]
  have : nth (ys.map (fun x => x.fdiv (gcdN (ys ++ [z]))) ++ [z].map fun x => x.fdiv (gcdN (ys ++ [z]))) ((ys.map (fun x => x.fdiv (gcdN (ys ++ [z]))) ++ [z].map fun x => x.fdiv (gcdN (ys ++ [z]))).length - 1) = z.fdiv (gcdN (ys ++ [z])) := by
    unfold nth
    rw [List.getD_eq_getElem?_getD]
    simp
  rw [this]
  have d := dvd_gcdN.mp (Nat.dvd_refl (gcdN (ys ++ [z]))) z (by simp)
  generalize gcdN (ys ++ [z]) = g at gp d ⊢
  obtain ⟨k, rfl⟩ := d
  rw [Int.fdiv_eq_ediv_of_nonneg _ (by omega), Int.mul_ediv_cancel_left _ (by omega)]
  intro z0
  rw [z0] at zp; simp at zp
theorem cols_end {r : Rul} {xs : List Int} (he : ended xs = true) : cols r xs = [] := by
  have : tabs r KF xs = [] := by show (if _ then _ else _) = _; rw [he]; rfl
  unfold cols
  rw [this]; rfl
end DD

set_option Elab.async false
set_option linter.all false
set_option maxRecDepth 100000
set_option maxHeartbeats 1000000
/-! things of any kind -/
namespace DD
open PySem (Str)
/-- a thing that may be looked at, so deep; its numbers are not too great -/
def okD : Nat → D → Bool
  | _, .ref _ => false
  | _, .scr _ => false
  | _, .ldic _ _ => false
  | _, .int i => decide (i.natAbs < 2 ^ 200)
  | n + 1, .tup ds => decide (ds.length ≤ 1000) && ds.all (okD n)
  | _, _ => true
def isInt : D → Bool
  | .int _ => true
  | _ => false
theorem okD_tup {n : Nat} {ds : List D} (h : okD (n + 1) (.tup ds) = true) : ds.length ≤ 1000 ∧ ∀ d ∈ ds, okD n d = true := by
  simp only [okD, Bool.and_eq_true, decide_eq_true_eq, List.all_eq_true] at h
  exact h
theorem tup_okD {n : Nat} {ds : List D} (h : ds.length ≤ 1000) (k : ∀ d ∈ ds, okD n d = true) : okD (n + 1) (.tup ds) = true := by
  simp only [okD, Bool.and_eq_true, decide_eq_true_eq, List.all_eq_true]
  exact ⟨h, k⟩
theorem int_okD {n : Nat} {i : Int} (h : i.natAbs < 2 ^ 200) : okD n (.int i) = true := by
  cases n <;> simp [okD] <;> omega
theorem ti_okD {n : Nat} {xs : List Int} (h : xs.length ≤ 1000) (k : Bv 200 xs) : okD (n + 1) (ti xs) = true := by
  refine tup_okD (by simpa using h) fun d hd => ?_
  obtain ⟨x, hx, rfl⟩ := List.mem_map.mp hd
  exact int_okD (k x hx)
/-- all are whole numbers, or not -/
theorem ints_or (ds : List D) : (∃ xs : List Int, ds = xs.map .int) ∨ ds.all isInt = false := by
  induction ds with
  | nil => exact .inl ⟨[], rfl⟩
  | cons d ds ih =>
    cases d with
    | int i =>
      rcases ih with ⟨xs, rfl⟩ | h
      · exact .inl ⟨i :: xs, rfl⟩
      · exact .inr (by rw [List.all_cons, h, Bool.and_false])
    | _ => exact .inr rfl
theorem all_isInt (xs : List Int) : (xs.map D.int).all isInt = true := by
  rw [List.all_map]; exact List.all_eq_true.mpr fun _ _ => rfl
theorem bv_okD {n : Nat} {xs : List Int} (h : ∀ d ∈ xs.map D.int, okD n d = true) : Bv 200 xs := by
  intro x hx
  have := h (.int x) (List.mem_map.mpr ⟨x, hx, rfl⟩)
  cases n <;> simp [okD] at this <;> omega
theorem all_bools {α : Type} (xs : List α) (p : α → Bool) : bi1 .all (.lst (xs.map fun x => .bool (p x))) = some (.bool (xs.all p)) := by
  have e := all_lst (xs.map p)
  simp only [List.map_map, Function.comp_def, List.all_map, id] at e
  exact e
/-- a for that ends with the first thing that fails a test -/
theorem forGo_test {t : T} {b : Ev → Store → R Fl} {st : Store} {p : D → Bool} {w : W} {I : Ev → Prop} : ∀ (xs : List D) (env : Ev), I env →
    (∀ x ∈ xs, ∀ env, I env → ∃ env', bindT t x env = some env' ∧ (p x = true → ∃ env2, b env' st = .ok (.next env2) st ∧ I env2) ∧ (p x = false → b env' st = .ok (.ret w) st)) →
    (xs.all p = true → ∃ env2, forGo t b xs env st = .ok (.next env2) st ∧ I env2) ∧ (xs.all p = false → forGo t b xs env st = .ok (.ret w) st)
  | [], env, hi, _ => ⟨fun _ => ⟨env, rfl, hi⟩, fun h => by simp at h⟩
  | x :: xs, env, hi, h => by
    obtain ⟨env', h1, h2, h3⟩ := h x (List.mem_cons_self ..) env hi
    unfold forGo
    rw [h1]
    cases e : p x with
    | false =>
      simp only [h3 e, R.bind_ok, List.all_cons, e, Bool.false_and]
      exact ⟨fun z => (by cases z), fun _ => trivial⟩
    | true =>
      obtain ⟨env2, q1, q2⟩ := h2 e
      simp only [q1, R.bind_ok, List.all_cons, e, Bool.true_and]
      exact forGo_test xs env2 q2 fun y hy => h y (List.mem_cons_of_mem _ hy)
/-- one of a written list -/
theorem idx_some {ds : List D} {j : Int} (h0 : 0 ≤ j) (h1 : j < ds.length) : ∃ d, idxD (.lst ds) (.int j) = some d ∧ d ∈ ds := by
  have hj : j.toNat < ds.length := by omega
  refine ⟨ds[j.toNat], ?_, List.getElem_mem hj⟩
  simp only [idxD, place_in h0 h1, Option.bind_some, List.getElem?_eq_getElem hj]
theorem add_tup {xs ys : List D} (h : xs.length + ys.length ≤ 1000000) : binop .add (.tup xs) (.tup ys) = some (.tup (xs ++ ys)) := if_pos h
theorem slT_tup {xs : List D} {k : Int} (h0 : 0 ≤ k) (h1 : k ≤ xs.length) : sliceD (.tup xs) none (some k) = some (.tup (xs.take k.toNat)) := by
  have e : clampI xs.length k = k.toNat := by
    simp only [clampI]; rw [if_neg (by omega)]; omega
  simp only [sliceD, sliceL, e]
  rfl
theorem slF_tup {xs : List D} {k : Int} (h0 : 0 ≤ k) : sliceD (.tup xs) (some k) none = some (.tup (xs.drop k.toNat)) := by
  have e : clampI xs.length k = min k.toNat xs.length := by
    simp only [clampI]; rw [if_neg (by omega)]
  simp only [sliceD, sliceL, e]
  rw [List.take_of_length_le (by simp)]
  congr 2
  rcases Nat.le_total k.toNat xs.length with h | h
  · rw [Nat.min_eq_left h]
  · rw [Nat.min_eq_right h, List.drop_of_length_le h, List.drop_of_length_le (Nat.le_refl _)]
theorem rep_tup {d : D} {k : Int} (h0 : 1 ≤ k) (h1 : k ≤ 1000) : binop .mul (.tup [d]) (.int k) = some (.tup (List.replicate k.toNat d)) := by
  have c : ([d] : List D) ≠ [] ∧ 1 ≤ k ∧ k ≤ 1000 ∧ [d].length ≤ 1000 := ⟨by simp, h0, h1, by simp⟩
  simp only [binop, if_pos c, rep]
  congr 2
  generalize k.toNat = m
  induction m with
  | zero => rfl
  | succ m ih => simp only [List.replicate_succ, List.flatten_cons, ih]; rfl
/-- a thing that is the same as itself, for the laws' look -/
def smD : Nat → D → Bool
  | _, .non => true
  | _, .bool _ => true
  | _, .int _ => true
  | _, .str s => s.cps.all (· < 0x110000)
  | n + 1, .tup ds => decide (ds.length ≤ 100000) && ds.all (smD n)
  | n + 1, .lst ds => decide (ds.length ≤ 100000) && ds.all (smD n)
  | _, _ => false
theorem smD_ti {n : Nat} {xs : List Int} (h : xs.length ≤ 100000) : smD (n + 1) (ti xs) = true := by
  simp only [ti, smD, Bool.and_eq_true, decide_eq_true_eq, List.all_eq_true, List.length_map]
  refine ⟨h, fun d hd => ?_⟩
  obtain ⟨x, _, rfl⟩ := List.mem_map.mp hd
  cases n <;> rfl
theorem smD_tb {n : Nat} {M : Mx} (h : M.length ≤ 100000) (k : ∀ r ∈ M, r.length ≤ 100000) : smD (n + 2) (tb M) = true := by
  simp only [tb, smD, Bool.and_eq_true, decide_eq_true_eq, List.all_eq_true, List.length_map]
  refine ⟨h, fun d hd => ?_⟩
  obtain ⟨r, hr, rfl⟩ := List.mem_map.mp hd
  exact smD_ti (k r hr)
end DD

set_option Elab.async false
set_option linter.all false
set_option maxRecDepth 100000
set_option maxHeartbeats 0
/-! tables of any kind; the one number by all orders -/
namespace DD
open PySem (Str)
/-- a line of a table of so many -/
def lineB (n : Nat) : D → Bool
  | .tup es => ((es.length : Int) == (n : Int)) && es.all isInt
  | _ => false
structure TabD (d : D) (n : Nat) (M : Mx) : Prop where
  e : d = tb M
  h2 : 2 ≤ n
  h4 : n ≤ 4
  s : Sq n M
  b : Bm 200 M
theorem lines_of {k n : Nat} : ∀ {ds : List D}, (∀ d ∈ ds, okD (k + 1) d = true) → ds.all (lineB n) = true → ∃ M : Mx, ds = M.map ti ∧ (∀ r ∈ M, r.length = n) ∧ Bm 200 M
  | [], _, _ => ⟨[], rfl, by simp, by intro r hr; simp at hr⟩
  | d :: ds, h, ha => by
    rw [List.all_cons, Bool.and_eq_true] at ha
    obtain ⟨M, rfl, hM, bM⟩ := lines_of (fun d hd => h d (List.mem_cons_of_mem _ hd)) ha.2
    have hd := h d List.mem_cons_self
    cases d with
    | tup es =>
      have h1 : (((es.length : Int) == (n : Int)) && es.all isInt) = true := ha.1
      rw [Bool.and_eq_true, beq_iff_eq] at h1
      rcases ints_or es with ⟨xs, rfl⟩ | hz
      · refine ⟨xs :: M, rfl, ?_, ?_⟩
        · intro r hr
          rcases List.mem_cons.mp hr with rfl | hr
          · have := h1.1; rw [List.length_map] at this; omega
          · exact hM r hr
        · intro r hr
          rcases List.mem_cons.mp hr with rfl | hr
          · exact bv_okD (okD_tup hd).2
          · exact bM r hr
      · rw [hz] at h1; exact absurd h1.2 (by simp)
    | _ => cases ha.1
theorem tab_of {k : Nat} {ds : List D} (h : okD (k + 2) (.tup ds) = true) (h2 : 2 ≤ ds.length) (h4 : ds.length ≤ 4) (ha : ds.all (lineB ds.length) = true) : ∃ M, TabD (.tup ds) ds.length M := by
  obtain ⟨M, e, hM, bM⟩ := lines_of (okD_tup h).2 ha
  refine ⟨M, by rw [e]; rfl, h2, h4, ⟨by rw [e]; simp, hM⟩, bM⟩
theorem tab_line {n : Nat} {M : Mx} (s : Sq n M) : (M.map ti).all (lineB n) = true := by
  rw [List.all_map, List.all_eq_true]
  intro r hr
  have := s.r r hr
  show (((r.map D.int).length : Int) == (n : Int) && (r.map D.int).all isInt) = true
  rw [all_isInt, List.length_map, this]; simp
/-! all orders -/
def colW (row t : List Int) (x : Int) (c : Nat) : Option (List Int × Int) := if t.contains (c : Int) then none else some (t ++ [(c : Int)], x * row.getD c 0 * sgn (t.filter fun o => decide (o > (c : Int))).length)
def wayW (n : Nat) (row : List Int) (w : List Int × Int) : List (List Int × Int) := (List.range n).filterMap (colW row w.1 w.2)
def stepW (n : Nat) (row : List Int) (ws : List (List Int × Int)) : List (List Int × Int) := ws.flatMap (wayW n row)
def waysN (n : Nat) (M : Mx) : List (List Int × Int) := M.foldl (fun ws r => stepW n r ws) [([], 1)]
def perN (n : Nat) (M : Mx) : Int := ((waysN n M).map (·.2)).sum
theorem per_det {n : Nat} (h2 : 2 ≤ n) (h4 : n ≤ 4) {M : Mx} (s : Sq n M) : perN n M = detM n M := by
  rcases (show n = 2 ∨ n = 3 ∨ n = 4 by omega) with rfl | rfl | rfl
  · obtain ⟨a, b, c, d, rfl⟩ := s.x2
    simp [perN, waysN, stepW, wayW, colW, rg2, sgn]; rw [d2]; grind
  · obtain ⟨a, b, c, d, e, f, g, h, i, rfl⟩ := s.x3
    simp [perN, waysN, stepW, wayW, colW, rg3, sgn]; rw [d3]; grind
  · obtain ⟨a, b, c, d, e, f, g, h, i, j, k, l, m, n, o, p, rfl⟩ := s.x4
    simp [perN, waysN, stepW, wayW, colW, rg4, sgn]; simp only [d4, d3]; grind
theorem colW_bnd {row t : List Int} {x : Int} {c a b : Nat} {w : List Int × Int} (h : colW row t x c = some w) (hx : x.natAbs < 2 ^ a) (hr : Bv b row) : w.2.natAbs < 2 ^ (a + b) := by
  unfold colW at h
  split at h
  · cases h
  · cases h
    have h1 := bnd_mul hx (hr.get c)
    show (x * row.getD c 0 * sgn _).natAbs < _
    rw [Int.natAbs_mul]
    have : (sgn (t.filter fun o => decide (o > (c : Int))).length).natAbs = 1 := by
      unfold sgn; split <;> rfl
    rw [this, Nat.mul_one]; exact h1
theorem wayW_len (n : Nat) (row : List Int) (w : List Int × Int) : (wayW n row w).length ≤ n := by
  unfold wayW
  exact Nat.le_trans (List.length_filterMap_le _ _) (by simp)
theorem step_len {n : Nat} (row : List Int) : ∀ (ws : List (List Int × Int)), (stepW n row ws).length ≤ n * ws.length
  | [] => by simp [stepW]
  | w :: ws => by
    have := step_len (n := n) row ws
    have h := wayW_len n row w
    unfold stepW at this ⊢
    rw [List.flatMap_cons, List.length_append, List.length_cons, Nat.mul_add, Nat.mul_one]; omega
/-- what a way has -/
structure Wy (n a : Nat) (w : List Int × Int) : Prop where
  t : ∀ x ∈ w.1, x.natAbs < 10
  l : w.1.length ≤ 10
  x : w.2.natAbs < 2 ^ a
theorem wy_step {n a b j : Nat} (hn : n ≤ 4) {row : List Int} (hr : Bv b row) {ws : List (List Int × Int)} (h : ∀ w ∈ ws, Wy n a w ∧ w.1.length = j) (hj : j ≤ 8) : ∀ w ∈ stepW n row ws, Wy n (a + b) w ∧ w.1.length = j + 1 := by
  intro w hw
  obtain ⟨v, hv, hw⟩ := List.mem_flatMap.mp hw
  obtain ⟨c, hc, hw⟩ := List.mem_filterMap.mp hw
  obtain ⟨hv, lv⟩ := h v hv
  have hb := colW_bnd hw hv.x hr
  have hc := List.mem_range.mp hc
  unfold colW at hw
  split at hw
  · cases hw
  · cases hw
    refine ⟨⟨?_, by simp; omega, hb⟩, by simp [lv]⟩
    intro x hx
    rcases List.mem_append.mp hx with hx | hx
    · exact hv.t x hx
    · rw [List.mem_singleton] at hx; subst hx; omega
theorem filterMap_snoc {α β : Type} (f : Nat → Option β) (j : Nat) : (List.range (j + 1)).filterMap f = (List.range j).filterMap f ++ (match f j with | some y => [y] | none => []) := by
  rw [List.range_succ, List.filterMap_append]
  congr 1
  simp only [List.filterMap_cons, List.filterMap_nil]
  cases f j <;> rfl
theorem flatMap_snoc {α β : Type} (f : α → List β) (xs : List α) (j : Nat) (x : α) (h : xs[j]? = some x) : (xs.take (j + 1)).flatMap f = (xs.take j).flatMap f ++ f x := by
  obtain ⟨hj, e⟩ := List.getElem?_eq_some_iff.mp h
  rw [List.take_succ_eq_append_getElem hj, List.flatMap_append, e]
  simp
theorem notin_234 {n : Nat} (h : ¬ (2 ≤ n ∧ n ≤ 4)) : cmpop .notin (.int (n : Int)) (.tup [.int 2, .int 3, .int 4]) = some true := by
  simp only [cmpop, isIn, shal, List.all, List.any, eqD, Bool.and_self, Bool.true_and, if_true, Option.map_some, Option.some.injEq]
  rw [show ((2 : Int) == (n : Int)) = false by rw [beq_eq_false_iff_ne]; omega, show ((3 : Int) == (n : Int)) = false by rw [beq_eq_false_iff_ne]; omega, show ((4 : Int) == (n : Int)) = false by rw [beq_eq_false_iff_ne]; omega]
  rfl
theorem notin_unit {x : Int} (h : x ≠ 1) (h2 : x ≠ -1) : cmpop .notin (.int x) (.tup [.int 1, .int (-1)]) = some true := by
  simp only [cmpop, isIn, shal, List.all, List.any, eqD, Bool.and_self, Bool.true_and, if_true, Option.map_some, Option.some.injEq]
  rw [show ((1 : Int) == x) = false by rw [beq_eq_false_iff_ne]; omega, show ((-1 : Int) == x) = false by rw [beq_eq_false_iff_ne]; omega]
  rfl
theorem notin_ti (c : Int) (xs : List Int) : cmpop .notin (.int c) (ti xs) = some (!xs.contains c) := by
  have h1 : (xs.map D.int).all (shal 12) = true := by
    rw [List.all_map, List.all_eq_true]; intro _ _; rfl
  have h2 : (xs.map D.int).any (fun y => eqD y (.int c)) = xs.contains c := by
    rw [List.any_map]
    induction xs with
    | nil => rfl
    | cons x xs ih =>
      rw [List.any_cons, List.contains_cons, ih (by rw [List.all_map, List.all_eq_true]; intro _ _; rfl)]
      congr 1
      show (x == c) = (c == x)
      rw [Bool.eq_iff_iff, beq_iff_eq, beq_iff_eq, eq_comm]
  show (isIn (.int c) (.tup (xs.map .int))).map (!·) = _
  have h0 : shal 12 (.int c) = true := rfl
  simp only [isIn, h0, h1, h2, Bool.and_self, if_true, Option.map_some]
end DD

set_option Elab.async false
set_option linter.all false
set_option maxRecDepth 100000
set_option maxHeartbeats 1000000
/-! a step by a sorted order: no program in sight -/
namespace DD
open PySem (Str)
theorem head_least {l : List (Int × Int)} {q : Int × Int} (hs : l.Pairwise (fun p q => leP p q = true)) (hq : q ∈ l) (hl : ∀ p ∈ l, leP q p = true) : l[0]? = some q := by
  cases l with
  | nil => cases hq
  | cons h t =>
    rcases List.mem_cons.mp hq with rfl | hq
    · rfl
    · have := leP_antisymm (hl h (by simp)) ((List.pairwise_cons.mp hs).1 q hq)
      rw [this]; rfl
def posI (xs : List Int) : List Nat := (List.range xs.length).filter fun i => decide (nth xs i > 0)
def prI (xs : List Int) (i : Nat) : Int × Int := (nth xs i, (i : Int))
def ordL (xs : List Int) : List (Int × Int) := sortP ((posI xs).map (prI xs))
theorem mem_ordL {xs : List Int} {q : Int × Int} : q ∈ ordL xs ↔ ∃ i, i < xs.length ∧ 0 < nth xs i ∧ q = (nth xs i, (i : Int)) := by
  unfold ordL
  rw [(sortP_perm _).mem_iff, List.mem_map]
  constructor
  · rintro ⟨i, hi, rfl⟩
    unfold posI at hi
    rw [List.mem_filter, List.mem_range] at hi
    exact ⟨i, hi.1, by simpa using hi.2, rfl⟩
  · rintro ⟨i, h1, h2, rfl⟩
    exact ⟨i, by unfold posI; rw [List.mem_filter, List.mem_range]; exact ⟨h1, by simpa using h2⟩, rfl⟩
theorem ordL_sorted (xs : List Int) : (ordL xs).Pairwise (fun p q => leP p q = true) := sortP_sorted _
theorem ord_all {b : Nat} {xs : List Int} (h : Lot b xs) : (ordL xs)[0]? = some (nth xs (byP .all xs), (byP .all xs : Int)) := by
  obtain ⟨⟨m, e, em⟩, q1, q2, q3, q4⟩ := by_all h
  refine head_least (ordL_sorted xs) (mem_ordL.mpr ⟨_, q2, q3, rfl⟩) ?_
  rintro p hp
  obtain ⟨i, h1, h2, rfl⟩ := mem_ordL.mp hp
  rw [leP_iff]
  have h3 := q4 i h1 h2
  by_cases h4 : nth xs (byP .all xs) = nth xs i
  · right
    refine ⟨h4, ?_⟩
    have : nth xs (byP .all xs) = mn (xs.filter fun x => decide (x > 0)) := by
      obtain ⟨_, _, z, _⟩ := plc_ok (xs := xs) (v := mn (xs.filter fun x => decide (x > 0))) (b := -1) (by
        obtain ⟨m', e', hm', _⟩ := minI_ok (filt_ne h.ps)
        rw [e] at e'; cases e'
        obtain ⟨i, hi, ei⟩ := mem_nth (List.mem_filter.mp hm').1
        exact ⟨i, hi, by rw [ei, em], by omega⟩)
      exact z
    have := plc_le (xs := xs) (v := mn (xs.filter fun x => decide (x > 0))) (b := -1) h1 (by rw [← h4]; exact this) (by omega)
    show ((byP .all xs : Nat) : Int) ≤ (i : Int)
    simp only [byP]; omega
  · left
    show nth xs (byP .all xs) < nth xs i
    omega
def notTop (xs : List Int) (p : Int × Int) : Bool := !(p.2 == (top xs : Int))
theorem notTop_iff {xs : List Int} {p : Int × Int} : notTop xs p = true ↔ p.2 ≠ (top xs : Int) := by simp [notTop]
theorem mem_oths {xs : List Int} {v : Int} : v ∈ oths xs ↔ ∃ i, i < xs.length ∧ (i : Int) ≠ (top xs : Int) ∧ 0 < nth xs i ∧ v = nth xs i := by
  unfold oths
  simp only [List.mem_map, List.mem_filter, List.mem_range, Bool.and_eq_true, decide_eq_true_eq]
  constructor
  · rintro ⟨i, ⟨h1, h2, h3⟩, rfl⟩; exact ⟨i, h1, h2, h3, rfl⟩
  · rintro ⟨i, h1, h2, h3, rfl⟩; exact ⟨i, ⟨h1, h2, h3⟩, rfl⟩
theorem ord_least {b : Nat} {xs : List Int} (h : Lot b xs) (he : ended xs = false) : ((ordL xs).filter (notTop xs))[0]? = some (nth xs (byP .least xs), (byP .least xs : Int)) := by
  obtain ⟨⟨m, e, em⟩, q1, q2, q3, q4⟩ := by_least h he
  obtain ⟨o1, o2⟩ := oths_ok h he
  obtain ⟨m', e', hm', hle⟩ := minI_ok o1
  have e2 : m = m' := by rw [e] at e'; exact Option.some.inj e'
  subst e2
  obtain ⟨h0, i0, hi0, ei0, hit0⟩ := o2 m hm'
  obtain ⟨_, _, z, _⟩ := plc_ok (xs := xs) (v := mn (oths xs)) (b := top xs) ⟨i0, hi0, by rw [ei0, em], hit0⟩
  refine head_least ((ordL_sorted xs).filter _) (List.mem_filter.mpr ⟨mem_ordL.mpr ⟨_, q2, q3, rfl⟩, notTop_iff.mpr (show ((byP .least xs : Nat) : Int) ≠ _ by omega)⟩) ?_
  rintro p hp
  rw [List.mem_filter] at hp
  obtain ⟨i, h1, h2, rfl⟩ := mem_ordL.mp hp.1
  have h3 := notTop_iff.mp hp.2
  have h5 : m ≤ nth xs i := hle _ (mem_oths.mpr ⟨i, h1, h3, h2, rfl⟩)
  have z' : nth xs (byP .least xs) = m := by rw [em]; exact z
  rw [leP_iff]
  by_cases h4 : m = nth xs i
  · right
    refine ⟨by rw [z']; exact h4, ?_⟩
    have := plc_le (xs := xs) (v := mn (oths xs)) (b := top xs) h1 (by rw [← h4]; exact em) h3
    show ((byP .least xs : Nat) : Int) ≤ (i : Int)
    simp only [byP]; omega
  · left
    show nth xs (byP .least xs) < nth xs i
    omega
theorem maxI_eq {xs ys : List Int} (h : ∀ x, x ∈ xs ↔ x ∈ ys) : maxI xs = maxI ys := by
  by_cases e : xs = []
  · subst e
    cases ys with
    | nil => rfl
    | cons y ys => exact absurd ((h y).mpr (by simp)) (by simp)
  · have e' : ys ≠ [] := by
      intro z; subst z
      cases xs with
      | nil => exact e rfl
      | cons x xs => exact absurd ((h x).mp (by simp)) (by simp)
    obtain ⟨m, h1, h2, h3⟩ := maxI_ok e
    obtain ⟨k, h4, h5, h6⟩ := maxI_ok e'
    have a := h3 k ((h k).mpr h5)
    have b := h6 m ((h m).mp h2)
    rw [h1, h4]; congr 1; omega
theorem ord_next {b : Nat} {xs : List Int} (h : Lot b xs) (he : ended xs = false) : maxI (((ordL xs).filter (notTop xs)).map (·.1)) = some (mx (oths xs)) := by
  obtain ⟨⟨m, e, em⟩, _⟩ := by_next h he
  rw [← em, ← e]
  refine maxI_eq fun v => ?_
  rw [mem_oths, List.mem_map]
  constructor
  · rintro ⟨p, hp, rfl⟩
    rw [List.mem_filter] at hp
    obtain ⟨i, h1, h2, rfl⟩ := mem_ordL.mp hp.1
    exact ⟨i, h1, notTop_iff.mp hp.2, h2, rfl⟩
  · rintro ⟨i, h1, h2, h3, rfl⟩
    exact ⟨_, List.mem_filter.mpr ⟨mem_ordL.mpr ⟨i, h1, h3, rfl⟩, notTop_iff.mpr h2⟩, rfl⟩
theorem atP_eq (xs : List Int) (v : Int) : ((List.range xs.length).filter fun i => nth xs i == v) = atP xs v (-1) := by
  unfold atP
  refine List.filter_congr fun i _ => ?_
  have : decide ((i : Int) ≠ -1) = true := decide_eq_true (by omega)
  rw [this, Bool.and_true]
  by_cases h : nth xs i = v <;> simp [h]
theorem atP_eq2 (xs : List Int) (v b : Int) : ((List.range xs.length).filter fun i => nth xs i == v && !((i : Int) == b)) = atP xs v b := by
  unfold atP
  refine List.filter_congr fun i _ => ?_
  by_cases h : (i : Int) = b <;> by_cases h2 : nth xs i = v <;> simp [h, h2]
/-- the places that are divided, where what divides is above 0 -/
def smP (r : Rul) (xs : List Int) : List Nat := if r = .next ∨ r = .least then [top xs] else (List.range xs.length).filter fun i => !((i : Int) == (byP r xs : Int))
theorem mem_gone {b : Nat} {xs : List Int} (h : Lot b xs) (he : ended xs = false) (r : Rul) (i : Nat) : i ∈ gone r xs ↔ i ∈ smP r xs ∧ 0 < nth xs (byP r xs) := by
  cases r with
  | turn => simp [gone, smP, and_assoc]
  | all => simp [gone, smP, and_assoc]
  | next =>
    obtain ⟨_, _, q1, q2, q3⟩ := by_next h he
    simp [gone, smP, q2]
  | least =>
    obtain ⟨_, _, q1, q2, q3⟩ := by_least h he
    simp [gone, smP, q2]
theorem smP_lt {b : Nat} {xs : List Int} (h : Lot b xs) (r : Rul) : ∀ i ∈ smP r xs, i < xs.length := by
  intro i hi
  unfold smP at hi
  split at hi
  · obtain ⟨m, _, _, _, t1, _⟩ := top_ok h
    rw [List.mem_singleton] at hi; subst hi; exact t1
  · exact List.mem_range.mp (List.mem_filter.mp hi).1
/-- the quotients, so far -/
def qv (xs : List Int) (b : Nat) (gs : List Nat) (i : Nat) : Int := if i ∈ gs ∧ 0 < nth xs b then (nth xs i).fdiv (nth xs b) else 0
theorem qv_set (xs : List Int) (b : Nat) (gs : List Nat) {a : Nat} (ha : a < xs.length) (h0 : 0 < nth xs b) : ((List.range xs.length).map (qv xs b gs)).set a ((nth xs a).fdiv (nth xs b)) = (List.range xs.length).map (qv xs b (gs ++ [a])) := by
  rw [set_nth (n := xs.length) rfl ha]
  refine List.map_congr_left fun i _ => ?_
  unfold qv
  by_cases e : i = a
  · subst e; simp [h0]
  · rw [if_neg e]; simp [e]
theorem qv_no (xs : List Int) (b : Nat) (gs hs : List Nat) (h0 : ¬ 0 < nth xs b) : (List.range xs.length).map (qv xs b gs) = (List.range xs.length).map (qv xs b hs) := by
  refine List.map_congr_left fun i _ => ?_
  unfold qv; rw [if_neg (fun z => h0 z.2), if_neg (fun z => h0 z.2)]
theorem qv_nil (xs : List Int) (b : Nat) : (List.range xs.length).map (qv xs b []) = List.replicate xs.length 0 := by
  rw [List.eq_replicate_iff]
  refine ⟨by simp, fun x hx => ?_⟩
  obtain ⟨i, _, rfl⟩ := List.mem_map.mp hx
  simp [qv]
theorem qv_gone {b : Nat} {xs : List Int} (h : Lot b xs) (he : ended xs = false) (r : Rul) (i : Nat) : qv xs (byP r xs) (smP r xs) i = if i ∈ gone r xs then (nth xs i).fdiv (nth xs (byP r xs)) else 0 := by
  unfold qv
  by_cases hg : i ∈ gone r xs
  · rw [if_pos ((mem_gone h he r i).mp hg), if_pos hg]
  · rw [if_neg (fun z => hg ((mem_gone h he r i).mpr z)), if_neg hg]
theorem lat_qv {b : Nat} {xs : List Int} (h : Lot b xs) (he : ended xs = false) (r : Rul) : (List.range xs.length).map (fun i => nth xs i - qv xs (byP r xs) (smP r xs) i * nth xs (byP r xs)) = lat xs (byP r xs) (gone r xs) := by
  unfold lat
  refine List.map_congr_left fun i _ => ?_
  rw [qv_gone h he]
  split
  · have := fdm (nth xs (byP r xs)) (nth xs i); omega
  · omega
/-- the row of a step's table, as it is made -/
theorem row_qv {b : Nat} {xs : List Int} (h : Lot b xs) (he : ended xs = false) (r : Rul) {i : Nat} (hi : i < xs.length) {v : Int} (hv : v = (if i = byP r xs then 1 else 0) + qv xs (byP r xs) (smP r xs) i) :
    ((List.range xs.length).map fun j => if i = j then (1 : Int) else 0).set (byP r xs) v = (List.range xs.length).map fun j => if i = j then 1 else if j = byP r xs ∧ i ∈ gone r xs then (nth xs i).fdiv (nth xs (byP r xs)) else 0 := by
  have s := sh_of h he r
  rw [set_nth (n := xs.length) rfl s.hb]
  refine List.map_congr_left fun j _ => ?_
  rw [qv_gone h he] at hv
  by_cases e : j = byP r xs
  · subst e
    rw [if_pos rfl, hv]
    by_cases e2 : i = byP r xs
    · rw [if_pos e2, if_pos e2, if_neg (fun z => by rw [e2] at z; exact (s.g _ z).2.1 rfl)]; rfl
    · rw [if_neg e2, if_neg e2]
      by_cases hg : i ∈ gone r xs
      · rw [if_pos hg, if_pos ⟨rfl, hg⟩]; omega
      · rw [if_neg hg, if_neg (fun z => hg z.2)]; rfl
  · rw [if_neg e]
    by_cases e2 : i = j
    · rw [if_pos e2, if_pos e2]
    · rw [if_neg e2, if_neg e2, if_neg (fun z => e z.1)]
theorem qv_bd {b : Nat} {xs : List Int} (h : Lot b xs) (c : Nat) (gs : List Nat) {i : Nat} (hi : i < xs.length) : 0 ≤ qv xs c gs i ∧ qv xs c gs i < 2 ^ b := by
  unfold qv
  have h0 := h.nn _ (nth_mem hi)
  have h1 := h.sm _ (nth_mem hi)
  split
  · rename_i z
    obtain ⟨f1, f2⟩ := fdiv_bd h0 z.2
    exact ⟨f1, Int.lt_of_le_of_lt f2 h1⟩
  · exact ⟨Int.le_refl _, Int.lt_of_le_of_lt h0 h1⟩
theorem in_next_least (r : Rul) : cmpop .isin (.str r.s) (.tup [.str (PySem.Str.ofString "next"), .str (PySem.Str.ofString "least")]) = some (decide (r = .next ∨ r = .least)) := by cases r <;> decide +kernel
/-- what is no rule -/
def nrD : D → Bool
  | .ref _ => false
  | .scr _ => false
  | .str s => s.cps.all (· < 0x110000) && !(decide (s = Rul.all.s) || decide (s = Rul.least.s) || decide (s = Rul.next.s) || decide (s = Rul.turn.s))
  | _ => true
theorem notin_nr {s : Str} (h : nrD (.str s) = true) : cmpop .notin (.str s) (.tup [.str (PySem.Str.ofString "all"), .str (PySem.Str.ofString "least"), .str (PySem.Str.ofString "next"), .str (PySem.Str.ofString "turn")]) = some true := by
  simp only [nrD, Bool.and_eq_true, Bool.not_eq_true', Bool.or_eq_false_iff, decide_eq_false_iff_not] at h
  obtain ⟨h0, ⟨⟨h1, h2⟩, h3⟩, h4⟩ := h
  have hs : shal 12 (.str s) = true := h0
  have ha : ([D.str (PySem.Str.ofString "all"), .str (PySem.Str.ofString "least"), .str (PySem.Str.ofString "next"), .str (PySem.Str.ofString "turn")].all (shal 12)) = true := by decide +kernel
  simp only [cmpop, isIn, hs, ha, Bool.and_self, if_true, Option.map_some, List.any, eqD, Bool.or_false]
  have e1 : (PySem.Str.ofString "all" == s) = false := by rw [beq_eq_false_iff_ne]; exact fun z => h1 z.symm
  have e2 : (PySem.Str.ofString "least" == s) = false := by rw [beq_eq_false_iff_ne]; exact fun z => h2 z.symm
  have e3 : (PySem.Str.ofString "next" == s) = false := by rw [beq_eq_false_iff_ne]; exact fun z => h3 z.symm
  have e4 : (PySem.Str.ofString "turn" == s) = false := by rw [beq_eq_false_iff_ne]; exact fun z => h4 z.symm
  rw [e1, e2, e3, e4]; rfl
end DD
namespace DD
theorem intsOf_twos : ∀ {ps : List (Int × Int)}, ps ≠ [] → intsOf (ps.map twoD) = none
  | [], h => absurd rfl h
  | p :: ps, _ => rfl
theorem twosOf_map (ps : List (Int × Int)) : twosOf (ps.map twoD) = some ps := by
  induction ps with
  | nil => rfl
  | cons p ps ih => simp only [List.map_cons, twoD, twosOf]; rw [ih]; rfl
theorem sorted_twos (ps : List (Int × Int)) : bi1 .sorted (.lst (ps.map twoD)) = some (.lst ((sortP ps).map twoD)) := by
  cases ps with
  | nil => rfl
  | cons p ps =>
    show (sortedD ((p :: ps).map twoD)).map D.lst = _
    unfold sortedD
    rw [intsOf_twos (by simp), twosOf_map]; rfl
theorem idx0 {α : Type} {l : List α} {a : α} {f : α → D} (h : l[0]? = some a) : idxD (.lst (l.map f)) (.int 0) = some (f a) := by
  cases l with
  | nil => cases h
  | cons x l =>
    cases h
    simp only [idxD, List.map_cons, List.length_cons]
    rw [place_in (by omega) (by omega)]; rfl
theorem rep_lst {n : Nat} (h : n ≤ 1000) : binop .mul (.lst [.int 0]) (.int (n : Int)) = some (.lst ((List.replicate n (0 : Int)).map .int)) := by
  have c : [D.int 0].length * (n : Int).toNat ≤ lim ∧ (n : Int).natAbs ≤ lim := by
    constructor
    · show 1 * (n : Int).toNat ≤ 1000000; omega
    · show (n : Int).natAbs ≤ 1000000; omega
  have e : ∀ n : Nat, (List.replicate n [D.int 0]).flatten = List.replicate n (D.int 0) := by
    intro n
    induction n with
    | zero => rfl
    | succ n ih => rw [List.replicate_succ, List.flatten_cons, ih, List.replicate_succ]; rfl
  show (if _ then some (D.lst (rep [.int 0] (n : Int))) else none) = _
  rw [if_pos c, rep, Int.toNat_natCast, e, List.map_replicate]
/-- what {'all': .., 'turn': 0}.get(rule) tells -/
def dgv (r : Rul) (xs : List Int) : D := match r with
  | .turn => .int 0
  | .all => .int (byP .all xs)
  | _ => .non
theorem dgv_eq (r : Rul) (xs : List Int) : (if r.s = PySem.Str.ofString "turn" then D.int 0 else if r.s = PySem.Str.ofString "all" then .int (byP .all xs) else .non) = dgv r xs := by
  cases r
  · rw [if_neg (by decide), if_pos (by decide)]; rfl
  · rw [if_neg (by decide), if_neg (by decide)]; rfl
  · rw [if_neg (by decide), if_neg (by decide)]; rfl
  · rw [if_pos (by decide)]; rfl
end DD
namespace DD
/-- a comprehension over a small range -/
theorem comp_rng {cl : CallT} {elt : E} {i k : Nat} {env : Ev} {st : Store} {g : Nat → D} (hi : i < env.length) (hk : k ≤ 1000) (h : ∀ j, j < k → evE cl elt (env.set i (.fz (.int (j : Int)))) st = .ok (g j) st) :
    evE cl (.comp elt (.nm i) (.r1 (.cst (.int (k : Int)))) [] [i]) env st = .ok (.lst ((List.range k).map g)) st := by
  have er := rangeI_eq (a := 0) (b := k) (by decide) (by omega)
  simp only [Int.sub_zero, Int.toNat_natCast, Int.zero_add] at er
  simp only [evE, evI_r1, R.bind_ok, er, R.of_some, wipe]
  rw [compGo_rg (g := g) (p := fun _ => true)]
  · rw [List.filter_eq_self.mpr fun _ _ => rfl, lined_ok (by rw [List.length_map, List.length_range]; omega)]
  · intro j hj
    refine ⟨(env.set i .no).set i (.fz (.int (j : Int))), ?_, rfl, ?_⟩
    · simp only [bindT, List.length_set, if_pos hi]
    · rw [List.set_set]; exact h j hj
theorem comp_r2 {cl : CallT} {elt : E} {i : Nat} {env : Ev} {st : Store} {d0 d1 : D} (hi : i < env.length) (h0 : evE cl elt (env.set i (.fz (.int 0))) st = .ok d0 st) (h1 : evE cl elt (env.set i (.fz (.int 1))) st = .ok d1 st) :
    evE cl (.comp elt (.nm i) (.r1 (.cst (.int 2))) [] [i]) env st = .ok (.lst [d0, d1]) st := by
  have := comp_rng (k := 2) (g := fun j => if j = 0 then d0 else d1) (cl := cl) (elt := elt) (i := i) (env := env) (st := st) hi (by decide) (fun j hj => by
    rcases (show j = 0 ∨ j = 1 by omega) with rfl | rfl
    · exact h0
    · exact h1)
  exact this
theorem comp_r3 {cl : CallT} {elt : E} {i : Nat} {env : Ev} {st : Store} {d0 d1 d2 : D} (hi : i < env.length) (h0 : evE cl elt (env.set i (.fz (.int 0))) st = .ok d0 st) (h1 : evE cl elt (env.set i (.fz (.int 1))) st = .ok d1 st) (h2 : evE cl elt (env.set i (.fz (.int 2))) st = .ok d2 st) :
    evE cl (.comp elt (.nm i) (.r1 (.cst (.int 3))) [] [i]) env st = .ok (.lst [d0, d1, d2]) st := by
  have := comp_rng (k := 3) (g := fun j => if j = 0 then d0 else if j = 1 then d1 else d2) (cl := cl) (elt := elt) (i := i) (env := env) (st := st) hi (by decide) (fun j hj => by
    rcases (show j = 0 ∨ j = 1 ∨ j = 2 by omega) with rfl | rfl | rfl
    · exact h0
    · exact h1
    · exact h2)
  exact this
/-- a lot with one number alone -/
def oneAt (xs : List Int) (a : Nat) : List Int := (List.range xs.length).map fun i => nth xs i * (if i = a then 1 else 0)
theorem oneAt_mem {xs : List Int} {a : Nat} {x : Int} (h : x ∈ oneAt xs a) : ∃ i, i < xs.length ∧ x = if i = a then nth xs i else 0 := by
  obtain ⟨i, hi, rfl⟩ := List.mem_map.mp h
  refine ⟨i, List.mem_range.mp hi, ?_⟩
  split <;> simp
theorem oneAt_lot {b : Nat} {xs : List Int} (h : Lot b xs) {a : Nat} (ha : a < xs.length) (h0 : 0 < nth xs a) : Lot b (oneAt xs a) ∧ ended (oneAt xs a) = true := by
  have l : (oneAt xs a).length = xs.length := by simp [oneAt]
  refine ⟨⟨by rw [l]; exact h.l2, by rw [l]; exact h.l4, fun x hx => ?_, ?_, fun x hx => ?_⟩, ?_⟩
  · obtain ⟨i, hi, rfl⟩ := oneAt_mem hx
    split
    · exact h.nn _ (nth_mem hi)
    · exact Int.le_refl _
  · exact ⟨nth xs a, List.mem_map.mpr ⟨a, List.mem_range.mpr ha, by simp⟩, h0⟩
  · obtain ⟨i, hi, rfl⟩ := oneAt_mem hx
    split
    · exact h.sm _ (nth_mem hi)
    · exact Int.pow_pos (by decide)
  · unfold ended oneAt
    rw [List.filter_map, List.length_map]
    have e : (List.range xs.length).filter ((fun x : Int => decide (x > 0)) ∘ fun i => nth xs i * (if i = a then 1 else 0)) = (List.range xs.length).filter (· == a) := by
      refine List.filter_congr fun i _ => ?_
      by_cases z : i = a
      · subst z; simp [h0]
      · simp [z]
    rw [e, ← List.count_eq_length_filter, List.count_range]
    simp [ha]
theorem oneAt_bv {b : Nat} {xs : List Int} (h : Lot b xs) (a : Nat) : Bv b (oneAt xs a) := by
  intro x hx
  obtain ⟨i, hi, rfl⟩ := oneAt_mem hx
  split
  · exact h.bv _ (nth_mem hi)
  · exact Nat.two_pow_pos b
theorem ne_self {d : D} (h : shal 12 d = true) (he : eqD d d = true) : cmpop .ne d d = some false := by
  have : cmpop .ne d d = if shal 12 d && shal 12 d then some (!eqD d d) else none := by cases d <;> rfl
  rw [this, h, he]; rfl
theorem Lot.up {a b : Nat} (hab : a ≤ b) {xs : List Int} (h : Lot a xs) : Lot b xs := ⟨h.l2, h.l4, h.nn, h.ps, fun x hx => Int.lt_of_lt_of_le (h.sm x hx) (by exact_mod_cast Nat.pow_le_pow_right (by decide) hab)⟩
end DD
namespace DD
/-- what a def tells that turns a refusal into its word -/
def caught (ks : List PySem.Str) : R W → R W
  | .exc c st => (match wordOf ks c with
    | some w => .ok (.fz (.str w)) st
    | none => .bad)
  | r => r
end DD
namespace DD
theorem evE_cmp (cl : CallT) (o : Cop) (a b : E) (env : Ev) (st : Store) : evE cl (.cmp o a b) env st = (evE cl a env st).bind fun x st => (evE cl b env st).bind fun y st => .of ((cmpop o x y).map .bool) st := by simp only [evE]
/-- a comprehension over a small range whose parts change the store -/
theorem comp_inv {cl : CallT} {elt : E} {i k : Nat} {env : Ev} {st : Store} {I : Store → Prop} {G : D → Prop} (hi : i < env.length) (hk : k ≤ 1000) (h0 : I st) (h : ∀ j, j < k → ∀ st, I st → Ok (evE cl elt (env.set i (.fz (.int (j : Int)))) st) fun d st' => G d ∧ I st') :
    Ok (evE cl (.comp elt (.nm i) (.r1 (.cst (.int (k : Int)))) [] [i]) env st) fun d st' => ∃ ds, d = .lst ds ∧ ds.length = k ∧ (∀ d ∈ ds, G d) ∧ I st' := by
  have er := rangeI_eq (a := 0) (b := k) (by decide) (by omega)
  simp only [Int.sub_zero, Int.toNat_natCast, Int.zero_add] at er
  simp only [evE, evI_r1, R.bind_ok, er, R.of_some, wipe, lined]
  rw [ok_bind_iff]
  refine (compGo_inv (I := I) (G := G) _ st h0 ?_).mono ?_
  · intro x hx st hs
    obtain ⟨j, hj, rfl⟩ := List.mem_map.mp hx
    refine ⟨(env.set i .no).set i (.fz (.int (j : Int))), ?_, by simp only [evC], ?_⟩
    · simp only [bindT, List.length_set, if_pos hi]
    · rw [List.set_set]; exact h j (List.mem_range.mp hj) st hs
  · rintro ds st' ⟨l, g, s⟩
    rw [List.length_map, List.length_range] at l
    rw [if_pos (show ds.length ≤ lim by show _ ≤ 1000000; omega)]
    exact ok_ok ⟨ds, rfl, l, g, s⟩
theorem all_eq {ds : List D} {k : Nat} {d : D} (hl : ds.length = k) (h : ∀ e ∈ ds, e = d) : ds = List.replicate k d := List.eq_replicate_iff.mpr ⟨hl, h⟩
/-- three calls' values, each its holder's own -/
theorem compW_r3 {cl : CallT} {f i : Nat} {es : List E} {env : Ev} {st : Store} {w0 w1 w2 : W} (hi : i < env.length)
    (h0 : ((evEs cl es (env.set i (.fz (.int 0))) st).bind fun ds st => cl f ds st) = .ok w0 st) (h1 : ((evEs cl es (env.set i (.fz (.int 1))) st).bind fun ds st => cl f ds st) = .ok w1 st) (h2 : ((evEs cl es (env.set i (.fz (.int 2))) st).bind fun ds st => cl f ds st) = .ok w2 st) :
    evW cl (.compW f es (.nm i) (.r1 (.cst (.int 3))) [i]) env st = .ok (.lw [w0, w1, w2]) st := by
  have er : rangeI 0 3 1 = some [.int 0, .int 1, .int 2] := rfl
  simp only [evW, evE, evI_r1, R.bind_ok, er, R.of_some, wipe, compGo, bindT, List.length_set, if_pos hi, List.set_set, R.calm_ok, if_true, h0, h1, h2, List.length, lim, Nat.reduceAdd, Nat.reduceLeDiff]
end DD
namespace DD
theorem smD_lst {n : Nat} {ds : List D} (h : ds.length ≤ 100000) (k : ∀ d ∈ ds, smD n d = true) : smD (n + 1) (.lst ds) = true := by
  simp only [smD, Bool.and_eq_true, decide_eq_true_eq, List.all_eq_true]; exact ⟨h, k⟩
theorem smD_tup {n : Nat} {ds : List D} (h : ds.length ≤ 100000) (k : ∀ d ∈ ds, smD n d = true) : smD (n + 1) (.tup ds) = true := by
  simp only [smD, Bool.and_eq_true, decide_eq_true_eq, List.all_eq_true]; exact ⟨h, k⟩
end DD
namespace DD
/-! steps counted, ends alike -/
def stp (r : Rul) (xs : List Int) : Nat := (tabs r KF xs).length
theorem stp_le (r : Rul) (xs : List Int) : stp r xs ≤ 5000 := Nat.le_trans (runs_len r KF xs).2 (by decide)
theorem eqDs_intsD : ∀ xs ys : List Int, eqDs (xs.map D.int) (ys.map D.int) = decide (xs = ys)
  | [], [] => rfl
  | [], _ :: _ => rfl
  | _ :: _, [] => rfl
  | x :: xs, y :: ys => by
    simp only [List.map_cons, eqDs, eqD, eqDs_intsD xs ys]
    by_cases h : x = y <;> by_cases h2 : xs = ys <;> simp [h, h2]
theorem shal_li (n : Nat) (xs : List Int) : shal (n + 1) (.lst (xs.map .int)) = true := by simp [shal]
theorem eq_lis (xs ys : List Int) : cmpop .eq (.lst (xs.map .int)) (.lst (ys.map .int)) = some (decide (xs = ys)) := by
  show (if shal 12 (.lst (xs.map .int)) && shal 12 (.lst (ys.map .int)) then some (eqD (.lst (xs.map .int)) (.lst (ys.map .int))) else none) = _
  rw [shal_li, shal_li]
  show some (eqDs _ _) = _
  rw [eqDs_intsD]
theorem ne_lis (xs ys : List Int) : cmpop .ne (.lst (xs.map .int)) (.lst (ys.map .int)) = some (!decide (xs = ys)) := by
  show (if shal 12 (.lst (xs.map .int)) && shal 12 (.lst (ys.map .int)) then some (!eqD (.lst (xs.map .int)) (.lst (ys.map .int))) else none) = _
  rw [shal_li, shal_li]
  show some (!eqDs _ _) = _
  rw [eqDs_intsD]
theorem sorted_ti (xs : List Int) : bi1 .sorted (ti xs) = some (.lst ((sortI xs).map .int)) := by
  show (intsOf (xs.map D.int)).map _ = _
  rw [intsOf_map]; rfl
theorem isOf_map (ps : List (Int × PySem.Str)) : isOf (ps.map isD) = some ps := by
  induction ps with
  | nil => rfl
  | cons p ps ih => simp only [List.map_cons, isD, isOf]; rw [ih]; rfl
theorem sorted_iss {ps : List (Int × PySem.Str)} (h : ps ≠ []) : bi1 .sorted (.lst (ps.map isD)) = some (.lst ((sortIS ps).map isD)) := by
  cases ps with
  | nil => exact absurd rfl h
  | cons p ps =>
    show (sortedD ((p :: ps).map isD)).map D.lst = _
    unfold sortedD
    rw [show intsOf ((p :: ps).map isD) = none from rfl, show twosOf ((p :: ps).map isD) = none from rfl, isOf_map]; rfl
def bySt (xs : List Int) : List (Int × PySem.Str) := sortIS ([Rul.all, .least, .next, .turn].map fun r => ((stp r xs : Int), r.s))
theorem bySt_mem {xs : List Int} {p : Int × PySem.Str} (h : p ∈ bySt xs) : p.2.cps.all (· < 0x110000) = true := by
  unfold bySt at h
  rw [(sortIS_perm _).mem_iff] at h
  obtain ⟨r, _, rfl⟩ := List.mem_map.mp h
  show r.s.cps.all (· < 0x110000) = true
  cases r <;> decide +kernel
theorem bySt_len (xs : List Int) : (bySt xs).length = 4 := by
  unfold bySt
  rw [(sortIS_perm _).length_eq]; rfl
/-- how many are alike from the first one on, but for order -/
def lead : List (List Int) → List (List Int) → Nat
  | a :: as, b :: bs => if sortI a = sortI b then lead as bs + 1 else 0
  | _, _ => 0
theorem lead_le : ∀ as bs : List (List Int), lead as bs ≤ as.length
  | [], _ => Nat.zero_le _
  | _ :: _, [] => Nat.zero_le _
  | a :: as, b :: bs => by
    unfold lead
    have := lead_le as bs
    split
    · simp; omega
    · simp
theorem rev_lst (ds : List D) : revD (.lst ds) = some (.lst ds.reverse) := rfl
end DD

set_option Elab.async false
set_option linter.all false
set_option maxRecDepth 100000
set_option maxHeartbeats 0
namespace L53
open PySem DD DDS
abbrev L : PySem.W.OpenLaw := PySem.Challenge.rw_drawndown_k53_no_least
def topS (i : Nat) : Stmt := L.prog.main.body.getD i (.Pass ⟨0, 0, 0, 0⟩)
abbrev kinW : List PySem.Str := [PySem.Str.ofString "lot", PySem.Str.ofString "no", PySem.Str.ofString "no", PySem.Str.ofString "no", PySem.Str.ofString "no", PySem.Str.ofString "no", PySem.Str.ofString "rule", PySem.Str.ofString "ended", PySem.Str.ofString "bottom", PySem.Str.ofString "root", PySem.Str.ofString "cube", PySem.Str.ofString "size", PySem.Str.ofString "number", PySem.Str.ofString "many", PySem.Str.ofString "no", PySem.Str.ofString "no", PySem.Str.ofString "no"]
/-- is_whole: 0=thing -/
def b_is_whole : Fn := ⟨1, 1, [
  (.ret (.and (.isi (.var 0) [.int]) (.not (.isi (.var 0) [.bool]))))]⟩
def d_is_whole : Dc := ⟨PySem.Str.ofString "is_whole", [PySem.Str.ofString "thing"], [PySem.Str.ofString "thing"], topS 21, b_is_whole⟩
theorem bd_is_whole : Bd d_is_whole := fun _ _ _ _ _ _ us hl => match us, hl with | [_], _ => rfl
/-- is_upto: 0=thing 1=least 2=most -/
def b_is_upto : Fn := ⟨3, 3, [
  (.ret (.and (.call 0 [(.var 0)]) (.chain .le .le (.var 1) (.var 0) (.var 2))))]⟩
def d_is_upto : Dc := ⟨PySem.Str.ofString "is_upto", [PySem.Str.ofString "thing", PySem.Str.ofString "least", PySem.Str.ofString "most"], [PySem.Str.ofString "thing", PySem.Str.ofString "least", PySem.Str.ofString "most"], topS 22, b_is_upto⟩
theorem bd_is_upto : Bd d_is_upto := fun _ _ _ _ _ _ us hl => match us, hl with | [_, _, _], _ => rfl
/-- are_whole: 0=thing 1=many 2=one -/
def b_are_whole : Fn := ⟨2, 3, [
  (.ret (.and (.isi (.var 0) [.tuple]) (.and (.cmp .eq (.b1 .len (.var 0)) (.var 1)) (.b1 .all (.comp (.call 0 [(.var 2)]) (.nm 2) (.of (.var 0)) [] [2])))))]⟩
def d_are_whole : Dc := ⟨PySem.Str.ofString "are_whole", [PySem.Str.ofString "thing", PySem.Str.ofString "many", PySem.Str.ofString "one"], [PySem.Str.ofString "thing", PySem.Str.ofString "many"], topS 23, b_are_whole⟩
theorem bd_are_whole : Bd d_are_whole := fun _ _ _ _ _ _ us hl => match us, hl with | [_, _], _ => rfl
/-- is_lot: 0=thing -/
def b_is_lot : Fn := ⟨1, 1, [
  (.ife (.or (.not (.isi (.var 0) [.tuple])) (.or (.not (.chain .le .le (.cst (.int 2)) (.b1 .len (.var 0)) (.glo (PySem.Str.ofString "MOST_SIZE") (.int 4)))) (.not (.call 2 [(.var 0), (.b1 .len (.var 0))])))) [(.ret (.cst (.bool false)))] []),
  (.ret (.and (.cmp .ge (.b1 .min1 (.var 0)) (.cst (.int 0))) (.cmp .gt (.b1 .max1 (.var 0)) (.cst (.int 0)))))]⟩
def d_is_lot : Dc := ⟨PySem.Str.ofString "is_lot", [PySem.Str.ofString "thing"], [PySem.Str.ofString "thing"], topS 24, b_is_lot⟩
theorem bd_is_lot : Bd d_is_lot := fun _ _ _ _ _ _ us hl => match us, hl with | [_], _ => rfl
/-- check_lot: 0=lot -/
def b_check_lot : Fn := ⟨1, 1, [
  (.ife (.not (.call 3 [(.var 0)])) [(.rais 1)] [])]⟩
def d_check_lot : Dc := ⟨PySem.Str.ofString "check_lot", [PySem.Str.ofString "lot"], [PySem.Str.ofString "lot"], topS 25, b_check_lot⟩
theorem bd_check_lot : Bd d_check_lot := fun _ _ _ _ _ _ us hl => match us, hl with | [_], _ => rfl
/-- common_of: 0=numbers 1=found 2=number 3=other -/
def b_common_of : Fn := ⟨1, 4, [
  (.asg (.nm 1) (.cst (.int 0))),
  (.for_ (.nm 2) (.of (.var 0)) [(.asg (.nm 3) (.b1 .abs (.var 2))), (.whl (.cmp .gt (.var 3) (.cst (.int 0))) [(.par 1 3 (.var 3) (.bin .mod (.var 1) (.var 3)))])]),
  (.ret (.var 1))]⟩
def d_common_of : Dc := ⟨PySem.Str.ofString "common_of", [PySem.Str.ofString "numbers", PySem.Str.ofString "found", PySem.Str.ofString "number", PySem.Str.ofString "other"], [PySem.Str.ofString "numbers"], topS 26, b_common_of⟩
theorem bd_common_of : Bd d_common_of := fun _ _ _ _ _ _ us hl => match us, hl with | [_], _ => rfl
/-- sum_of: 0=one 1=other 2=mine 3=own -/
def b_sum_of : Fn := ⟨2, 4, [
  (.ret (.b1 .sum (.comp (.bin .mul (.var 2) (.var 3)) (.tp [(.nm 2), (.nm 3)]) (.zip (.var 0) (.var 1)) [] [2, 3])))]⟩
def d_sum_of : Dc := ⟨PySem.Str.ofString "sum_of", [PySem.Str.ofString "one", PySem.Str.ofString "other", PySem.Str.ofString "mine", PySem.Str.ofString "own"], [PySem.Str.ofString "one", PySem.Str.ofString "other"], topS 27, b_sum_of⟩
theorem bd_sum_of : Bd d_sum_of := fun _ _ _ _ _ _ us hl => match us, hl with | [_, _], _ => rfl
/-- check_small: 0=lot -/
def b_check_small : Fn := ⟨1, 1, [
  (.expr (.call 4 [(.var 0)])),
  (.ife (.cmp .gt (.b1 .max1 (.var 0)) (.glo (PySem.Str.ofString "GREATEST") (.int 1000))) [(.rais 14)] [])]⟩
def d_check_small : Dc := ⟨PySem.Str.ofString "check_small", [PySem.Str.ofString "lot"], [PySem.Str.ofString "lot"], topS 31, b_check_small⟩
theorem bd_check_small : Bd d_check_small := fun _ _ _ _ _ _ us hl => match us, hl with | [_], _ => rfl
/-- both_signs: 0=one 1=number -/
def b_both_signs : Fn := ⟨1, 2, [
  (.retW (.new (.b1 .sorted (.lst [(.var 0), (.b1 .tuple (.comp (.bin .sub (.cst (.int 0)) (.var 1)) (.nm 1) (.of (.var 0)) [] [1]))]))))]⟩
def d_both_signs : Dc := ⟨PySem.Str.ofString "both_signs", [PySem.Str.ofString "one", PySem.Str.ofString "number"], [PySem.Str.ofString "one"], topS 32, b_both_signs⟩
theorem bd_both_signs : Bd d_both_signs := fun _ _ _ _ _ _ us hl => match us, hl with | [_], _ => rfl
/-- of_two: 0=lot 1=least -/
def b_of_two : Fn := ⟨1, 2, [
  (.asg (.nm 1) (.call 5 [(.var 0)])),
  (.retW (.call 8 [(.tup [(.bin .fdiv (.idx (.var 0) (.cst (.int 1))) (.var 1)), (.bin .sub (.cst (.int 0)) (.bin .fdiv (.idx (.var 0) (.cst (.int 0))) (.var 1)))])]))]⟩
def d_of_two : Dc := ⟨PySem.Str.ofString "of_two", [PySem.Str.ofString "lot", PySem.Str.ofString "least"], [PySem.Str.ofString "lot"], topS 33, b_of_two⟩
theorem bd_of_two : Bd d_of_two := fun _ _ _ _ _ _ us hl => match us, hl with | [_], _ => rfl
/-- tuples_in: 0=many 1=weight 2=found 3=turn 4=longer 5=begun 6=number -/
def b_tuples_in : Fn := ⟨2, 7, [
  (.asg (.nm 2) (.lst [(.tup [])])),
  (.for_ (.nm 3) (.r1 (.var 0)) [(.asgO 4 (.new (.lst []))), (.for_ (.nm 5) (.of (.var 2)) [(.ext 4 (.comp (.bin .add (.var 5) (.tup [(.var 6)])) (.nm 6) (.r2 (.bin .sub (.cst (.int 0)) (.var 1)) (.bin .add (.var 1) (.cst (.int 1)))) [] [6]))]), (.frz 4), (.asg (.nm 2) (.var 4))]),
  (.ret (.var 2))]⟩
def d_tuples_in : Dc := ⟨PySem.Str.ofString "tuples_in", [PySem.Str.ofString "many", PySem.Str.ofString "weight", PySem.Str.ofString "found", PySem.Str.ofString "turn", PySem.Str.ofString "longer", PySem.Str.ofString "begun", PySem.Str.ofString "number"], [PySem.Str.ofString "many", PySem.Str.ofString "weight"], topS 34, b_tuples_in⟩
theorem bd_tuples_in : Bd d_tuples_in := fun _ _ _ _ _ _ us hl => match us, hl with | [_, _], _ => rfl
/-- with_weight: 0=lot 1=weight 2=found 3=begun 4=rest 5=ends 6=end 7=number -/
def b_with_weight : Fn := ⟨2, 8, [
  .junk,
  .junk,
  .junk]⟩
def d_with_weight : Dc := ⟨PySem.Str.ofString "with_weight", [PySem.Str.ofString "lot", PySem.Str.ofString "weight", PySem.Str.ofString "found", PySem.Str.ofString "begun", PySem.Str.ofString "rest", PySem.Str.ofString "ends", PySem.Str.ofString "end", PySem.Str.ofString "number"], [PySem.Str.ofString "lot", PySem.Str.ofString "weight"], topS 35, b_with_weight⟩
theorem bd_with_weight : Bd d_with_weight := fun _ _ _ _ _ _ us hl => match us, hl with | [_, _], _ => rfl
/-- least_by_weight: 0=lot 1=weight 2=found -/
def b_least_by_weight : Fn := ⟨1, 3, [
  (.ife (.cmp .eq (.b1 .len (.var 0)) (.cst (.int 2))) [(.retW (.call 9 [(.var 0)]))] []),
  .junk,
  .junk,
  .junk,
  .junk]⟩
def d_least_by_weight : Dc := ⟨PySem.Str.ofString "least_by_weight", [PySem.Str.ofString "lot", PySem.Str.ofString "weight", PySem.Str.ofString "found"], [PySem.Str.ofString "lot"], topS 36, b_least_by_weight⟩
theorem bd_least_by_weight : Bd d_least_by_weight := fun _ _ _ _ _ _ us hl => match us, hl with | [_], _ => rfl
/-- of_length: 0=numbers 1=length 2=found 3=place 4=longer 5=begun 6=used 7=ends 8=end 9=told 10=one 11=key -/
def b_of_length : Fn := ⟨2, 12, [
  .junk,
  .junk,
  .junk,
  .junk,
  .junk]⟩
def d_of_length : Dc := ⟨PySem.Str.ofString "of_length", [PySem.Str.ofString "numbers", PySem.Str.ofString "length", PySem.Str.ofString "found", PySem.Str.ofString "place", PySem.Str.ofString "longer", PySem.Str.ofString "begun", PySem.Str.ofString "used", PySem.Str.ofString "ends", PySem.Str.ofString "end", PySem.Str.ofString "told", PySem.Str.ofString "one", PySem.Str.ofString "key"], [PySem.Str.ofString "numbers", PySem.Str.ofString "length"], topS 37, b_of_length⟩
theorem bd_of_length : Bd d_of_length := fun _ _ _ _ _ _ us hl => match us, hl with | [_, _], _ => rfl
/-- least_by_length: 0=lot 1=mine 2=own 3=length 4=found 5=used 6=key 7=one 8=other 9=number -/
def b_least_by_length : Fn := ⟨1, 10, [
  (.ife (.cmp .eq (.b1 .len (.var 0)) (.cst (.int 2))) [(.retW (.call 9 [(.var 0)]))] []),
  .junk,
  .junk,
  .junk,
  .junk,
  .junk]⟩
def d_least_by_length : Dc := ⟨PySem.Str.ofString "least_by_length", [PySem.Str.ofString "lot", PySem.Str.ofString "mine", PySem.Str.ofString "own", PySem.Str.ofString "length", PySem.Str.ofString "found", PySem.Str.ofString "used", PySem.Str.ofString "key", PySem.Str.ofString "one", PySem.Str.ofString "other", PySem.Str.ofString "number"], [PySem.Str.ofString "lot"], topS 38, b_least_by_length⟩
theorem bd_least_by_length : Bd d_least_by_length := fun _ _ _ _ _ _ us hl => match us, hl with | [_], _ => rfl
/-- by_weight: 0=lot -/
def b_by_weight : Fn := ⟨1, 1, [
  (.expr (.call 7 [(.var 0)])),
  (.retW (.call 12 [(.var 0)]))]⟩
def d_by_weight : Dc := ⟨PySem.Str.ofString "by_weight", [PySem.Str.ofString "lot"], [PySem.Str.ofString "lot"], topS 39, b_by_weight⟩
theorem bd_by_weight : Bd d_by_weight := fun _ _ _ _ _ _ us hl => match us, hl with | [_], _ => rfl
/-- by_length: 0=lot -/
def b_by_length : Fn := ⟨1, 1, [
  (.expr (.call 7 [(.var 0)])),
  (.retW (.call 14 [(.var 0)]))]⟩
def d_by_length : Dc := ⟨PySem.Str.ofString "by_length", [PySem.Str.ofString "lot"], [PySem.Str.ofString "lot"], topS 40, b_by_length⟩
theorem bd_by_length : Bd d_by_length := fun _ _ _ _ _ _ us hl => match us, hl with | [_], _ => rfl
/-- least_weight: 0=lot 1=number -/
def b_least_weight : Fn := ⟨1, 2, [
  (.expr (.call 7 [(.var 0)])),
  (.ret (.b1 .max1 (.comp (.b1 .abs (.var 1)) (.nm 1) (.of (.idx (.call 12 [(.var 0)]) (.cst (.int 0)))) [] [1])))]⟩
def d_least_weight : Dc := ⟨PySem.Str.ofString "least_weight", [PySem.Str.ofString "lot", PySem.Str.ofString "number"], [PySem.Str.ofString "lot"], topS 41, b_least_weight⟩
theorem bd_least_weight : Bd d_least_weight := fun _ _ _ _ _ _ us hl => match us, hl with | [_], _ => rfl
/-- least_length: 0=lot 1=number -/
def b_least_length : Fn := ⟨1, 2, [
  (.expr (.call 7 [(.var 0)])),
  (.ret (.b1 .sum (.comp (.b1 .abs (.var 1)) (.nm 1) (.of (.idx (.call 14 [(.var 0)]) (.cst (.int 0)))) [] [1])))]⟩
def d_least_length : Dc := ⟨PySem.Str.ofString "least_length", [PySem.Str.ofString "lot", PySem.Str.ofString "number"], [PySem.Str.ofString "lot"], topS 42, b_least_length⟩
theorem bd_least_length : Bd d_least_length := fun _ _ _ _ _ _ us hl => match us, hl with | [_], _ => rfl
/-- check_clash: 0=lot 1=number -/
def b_check_clash : Fn := ⟨2, 2, [
  (.expr (.call 7 [(.var 0)])),
  (.ife (.not (.call 1 [(.var 1), (.cst (.int 1)), (.glo (PySem.Str.ofString "MOST_CLASH") (.int 8))])) [(.rais 13)] [])]⟩
def d_check_clash : Dc := ⟨PySem.Str.ofString "check_clash", [PySem.Str.ofString "lot", PySem.Str.ofString "number"], [PySem.Str.ofString "lot", PySem.Str.ofString "number"], topS 43, b_check_clash⟩
theorem bd_check_clash : Bd d_check_clash := fun _ _ _ _ _ _ us hl => match us, hl with | [_, _], _ => rfl
/-- clash_of: 0=lot 1=number 2=found 3=place 4=longer 5=begun 6=one 7=known 8=key 9=pairs -/
def b_clash_of : Fn := ⟨2, 10, [
  (.asg (.nm 2) (.lst [(.tup [])])),
  (.for_ (.nm 3) (.r1 (.b1 .len (.var 0))) [(.asgO 4 (.new (.lst []))), (.for_ (.nm 5) (.of (.var 2)) [(.ext 4 (.comp (.bin .add (.var 5) (.tup [(.var 6)])) (.nm 6) (.r1 (.bin .add (.var 1) (.cst (.int 1)))) [] [6]))]), (.frz 4), (.asg (.nm 2) (.var 4))]),
  (.asgO 7 (.new .dic0)),
  (.for_ (.nm 6) (.of (.var 2)) [(.asg (.nm 8) (.call 6 [(.var 6), (.var 0)])), (.putD 7 (.var 8) (.bin .add (.dgd (.varB 7) (.var 8) (.lst [])) (.lst [(.var 6)])))]),
  (.lockD 7),
  (.asg (.nm 9) (.comp (.tup [(.idx (.dix (.varB 7) (.var 8)) (.cst (.int 0))), (.idx (.dix (.varB 7) (.var 8)) (.cst (.int 1)))]) (.nm 8) (.of (.varB 7)) [(.cmp .gt (.b1 .len (.dix (.varB 7) (.var 8))) (.cst (.int 1)))] [8])),
  (.ret (.mnd (.var 9)))]⟩
def d_clash_of : Dc := ⟨PySem.Str.ofString "clash_of", [PySem.Str.ofString "lot", PySem.Str.ofString "number", PySem.Str.ofString "found", PySem.Str.ofString "place", PySem.Str.ofString "longer", PySem.Str.ofString "begun", PySem.Str.ofString "one", PySem.Str.ofString "known", PySem.Str.ofString "key", PySem.Str.ofString "pairs"], [PySem.Str.ofString "lot", PySem.Str.ofString "number"], topS 44, b_clash_of⟩
theorem bd_clash_of : Bd d_clash_of := fun _ _ _ _ _ _ us hl => match us, hl with | [_, _], _ => rfl
/-- has_none: 0=lot 1=number -/
def b_has_none : Fn := ⟨2, 2, [
  (.expr (.call 19 [(.var 0), (.var 1)])),
  (.ret (.isd (.call 20 [(.var 0), (.var 1)]) .non true))]⟩
def d_has_none : Dc := ⟨PySem.Str.ofString "has_none", [PySem.Str.ofString "lot", PySem.Str.ofString "number"], [PySem.Str.ofString "lot", PySem.Str.ofString "number"], topS 45, b_has_none⟩
theorem bd_has_none : Bd d_has_none := fun _ _ _ _ _ _ us hl => match us, hl with | [_, _], _ => rfl
/-- are_often: 0=lot 1=number 2=thing -/
def b_are_often : Fn := ⟨3, 3, [
  (.ret (.and (.call 2 [(.var 2), (.b1 .len (.var 0))]) (.and (.cmp .ge (.b1 .min1 (.var 2)) (.cst (.int 0))) (.cmp .le (.b1 .max1 (.var 2)) (.var 1)))))]⟩
def d_are_often : Dc := ⟨PySem.Str.ofString "are_often", [PySem.Str.ofString "lot", PySem.Str.ofString "number", PySem.Str.ofString "thing"], [PySem.Str.ofString "lot", PySem.Str.ofString "number", PySem.Str.ofString "thing"], topS 46, b_are_often⟩
theorem bd_are_often : Bd d_are_often := fun _ _ _ _ _ _ us hl => match us, hl with | [_, _, _], _ => rfl
/-- is_clash: 0=lot 1=number 2=thing -/
def b_is_clash : Fn := ⟨3, 3, [
  (.expr (.call 19 [(.var 0), (.var 1)])),
  (.ife (.or (.not (.isi (.var 2) [.tuple])) (.cmp .ne (.b1 .len (.var 2)) (.cst (.int 2)))) [(.ret (.cst (.bool false)))] []),
  (.ife (.or (.not (.call 22 [(.var 0), (.var 1), (.idx (.var 2) (.cst (.int 0)))])) (.not (.call 22 [(.var 0), (.var 1), (.idx (.var 2) (.cst (.int 1)))]))) [(.ret (.cst (.bool false)))] []),
  (.ret (.and (.cmp .lt (.idx (.var 2) (.cst (.int 0))) (.idx (.var 2) (.cst (.int 1)))) (.cmp .eq (.call 6 [(.idx (.var 2) (.cst (.int 0))), (.var 0)]) (.call 6 [(.idx (.var 2) (.cst (.int 1))), (.var 0)]))))]⟩
def d_is_clash : Dc := ⟨PySem.Str.ofString "is_clash", [PySem.Str.ofString "lot", PySem.Str.ofString "number", PySem.Str.ofString "thing"], [PySem.Str.ofString "lot", PySem.Str.ofString "number", PySem.Str.ofString "thing"], topS 47, b_is_clash⟩
theorem bd_is_clash : Bd d_is_clash := fun _ _ _ _ _ _ us hl => match us, hl with | [_, _, _], _ => rfl
/-- first_clash: 0=lot 1=number -/
def b_first_clash : Fn := ⟨2, 2, [
  (.expr (.call 19 [(.var 0), (.var 1)])),
  (.retW (.call 20 [(.var 0), (.var 1)]))]⟩
def d_first_clash : Dc := ⟨PySem.Str.ofString "first_clash", [PySem.Str.ofString "lot", PySem.Str.ofString "number"], [PySem.Str.ofString "lot", PySem.Str.ofString "number"], topS 48, b_first_clash⟩
theorem bd_first_clash : Bd d_first_clash := fun _ _ _ _ _ _ us hl => match us, hl with | [_, _], _ => rfl
/-- _law_cell_at: 0=_law_script 1=_law_k -/
def b_l_cell_at : Fn := ⟨2, 2, [
  (.ife (.cmp .lt (.var 1) (.b1 .len (.var 0))) [(.ret (.idx (.var 0) (.var 1)))] []),
  (.ret (.cst (.int 0)))]⟩
def d_l_cell_at : Dc := ⟨PySem.Str.ofString "_law_cell_at", [PySem.Str.ofString "_law_script", PySem.Str.ofString "_law_k"], [PySem.Str.ofString "_law_script", PySem.Str.ofString "_law_k"], topS 50, b_l_cell_at⟩
theorem bd_l_cell_at : Bd d_l_cell_at := fun _ _ _ _ _ _ us hl => match us, hl with | [_, _], _ => rfl
/-- _law_pot: 0=_law_cell 1=_law_number 2=_law_j 3=_law_more -/
def b_l_pot : Fn := ⟨1, 4, [
  (.ife (.cmp .ge (.var 0) (.bin .pow (.cst (.int 10)) (.cst (.int 18)))) [(.retW (.cell (.lst [(.bin .sub (.var 0) (.bin .pow (.cst (.int 10)) (.cst (.int 18))))])))] []),
  (.asg (.nm 1) (.cst (.int 0))),
  (.for_ (.nm 2) (.r1 (.cst (.int 64))) [(.asg (.nm 3) (.bin .mod (.bin .mul (.bin .add (.bin .add (.bin .mod (.var 0) (.cst (.int 2147483629))) (.bin .mul (.cst (.int 7919)) (.var 2))) (.cst (.int 1))) (.cst (.int 48271))) (.cst (.int 2147483647)))), (.asg (.nm 3) (.bin .mod (.bin .add (.bin .add (.bin .mul (.var 3) (.var 3)) (.bin .mul (.cst (.int 69621)) (.var 2))) (.cst (.int 7))) (.cst (.int 2147483587)))), (.asg (.nm 1) (.bin .add (.bin .mul (.var 1) (.cst (.int 2147483587))) (.var 3)))]),
  (.retW (.cell (.lst [(.var 1)])))]⟩
def d_l_pot : Dc := ⟨PySem.Str.ofString "_law_pot", [PySem.Str.ofString "_law_cell", PySem.Str.ofString "_law_number", PySem.Str.ofString "_law_j", PySem.Str.ofString "_law_more"], [PySem.Str.ofString "_law_cell"], topS 51, b_l_pot⟩
theorem bd_l_pot : Bd d_l_pot := fun _ _ _ _ _ _ us hl => match us, hl with | [_], _ => rfl
/-- _law_take: 0=_law_pot_here 1=_law_far 2=_law_found -/
def b_l_take : Fn := ⟨2, 3, [
  (.asg (.nm 2) (.bin .mod (.idxC (.var 0) (.cst (.int 0))) (.var 1))),
  (.setC 0 (.cst (.int 0)) (.bin .fdiv (.idxC (.var 0) (.cst (.int 0))) (.var 1))),
  (.ret (.var 2))]⟩
def d_l_take : Dc := ⟨PySem.Str.ofString "_law_take", [PySem.Str.ofString "_law_pot_here", PySem.Str.ofString "_law_far", PySem.Str.ofString "_law_found"], [PySem.Str.ofString "_law_pot_here", PySem.Str.ofString "_law_far"], topS 52, b_l_take⟩
theorem bd_l_take : Bd d_l_take := fun _ _ _ _ _ _ us hl => match us, hl with | [_, _], _ => rfl
/-- _law_kind_of: 0=_law_e 1=_law_some 2=_law_words -/
def b_l_kind_of : Fn := ⟨1, 3, [.kin [[PySem.Str.ofString "NoLot", PySem.Str.ofString "NoRule", PySem.Str.ofString "Ended", PySem.Str.ofString "NoBottom"], [PySem.Str.ofString "NoRoot", PySem.Str.ofString "NoCube", PySem.Str.ofString "NoSize", PySem.Str.ofString "NoNumber"], [PySem.Str.ofString "TooMany", PySem.Str.ofString "NoTable", PySem.Str.ofString "NoTuple", PySem.Str.ofString "NotAlike"], [PySem.Str.ofString "NotFair", PySem.Str.ofString "NoText", PySem.Str.ofString "NoStep", PySem.Str.ofString "NoDeed"], [PySem.Str.ofString "NoRow"]] [[PySem.Str.ofString "lot", PySem.Str.ofString "rule", PySem.Str.ofString "ended", PySem.Str.ofString "bottom", PySem.Str.ofString "root", PySem.Str.ofString "cube", PySem.Str.ofString "size", PySem.Str.ofString "number", PySem.Str.ofString "many"], [PySem.Str.ofString "no", PySem.Str.ofString "no", PySem.Str.ofString "no", PySem.Str.ofString "no", PySem.Str.ofString "no", PySem.Str.ofString "no", PySem.Str.ofString "no", PySem.Str.ofString "no"]]]⟩
def d_l_kind_of : Dc := ⟨PySem.Str.ofString "_law_kind_of", [PySem.Str.ofString "_law_e", PySem.Str.ofString "_law_some", PySem.Str.ofString "_law_words"], [PySem.Str.ofString "_law_e"], topS 53, b_l_kind_of⟩
theorem bd_l_kind_of : Bd d_l_kind_of := fun _ _ _ _ _ _ us hl => match us, hl with | [_], _ => rfl
/-- _law_no_lot: 0=_law_pot_here 1=_law_lot 2=_law_at 3=_law_odd 4=_law_some -/
def b_l_no_lot : Fn := ⟨2, 5, [
  (.asg (.nm 2) (.call 27 [(.var 0), (.b1 .len (.var 1))])),
  (.asg (.nm 3) (.idx (.lst [(.neg (.cst (.int 1))), (.cst (.bool true)), (.cst .non), (.cst (.str (PySem.Str.ofString "1"))), (.tup [(.cst (.int 1))]), (.cst (.bool false)), (.lst [(.cst (.int 1))])]) (.call 27 [(.var 0), (.cst (.int 7))]))),
  (.asg (.nm 4) (.lst [(.bin .add (.bin .add (.slT (.var 1) (.var 2)) (.tup [(.var 3)])) (.slF (.var 1) (.bin .add (.var 2) (.cst (.int 1))))), (.bin .mul (.tup [(.cst (.int 0))]) (.b1 .len (.var 1))), (.b1 .list (.var 1)), (.slT (.bin .add (.bin .add (.var 1) (.var 1)) (.var 1)) (.cst (.int 5))), (.slT (.var 1) (.cst (.int 1))), (.tup []), (.cst .non)])),
  (.ret (.idx (.bin .add (.var 4) (.lst [(.cst (.int 7)), (.cst (.str (PySem.Str.ofString "1:2"))), .dic0, (.tup [(.var 1)])])) (.call 27 [(.var 0), (.cst (.int 11))])))]⟩
def d_l_no_lot : Dc := ⟨PySem.Str.ofString "_law_no_lot", [PySem.Str.ofString "_law_pot_here", PySem.Str.ofString "_law_lot", PySem.Str.ofString "_law_at", PySem.Str.ofString "_law_odd", PySem.Str.ofString "_law_some"], [PySem.Str.ofString "_law_pot_here", PySem.Str.ofString "_law_lot"], topS 54, b_l_no_lot⟩
theorem bd_l_no_lot : Bd d_l_no_lot := fun _ _ _ _ _ _ us hl => match us, hl with | [_, _], _ => rfl
/-- _law_small_lot: 0=_law_pot_here 1=_law_size 2=_law_far 3=_law_found 4=_law_place 5=_law_at 6=_law_to 7=_law_way -/
def b_l_small_lot : Fn := ⟨2, 8, [
  (.asg (.nm 2) (.idx (.lst [(.cst (.int 10)), (.cst (.int 61)), (.cst (.int 1001))]) (.call 27 [(.var 0), (.cst (.int 3))]))),
  (.asgO 3 (.new (.comp (.call 27 [(.var 0), (.var 2)]) (.nm 4) (.r1 (.var 1)) [] [4]))),
  (.par 5 6 (.call 27 [(.var 0), (.var 1)]) (.call 27 [(.var 0), (.var 1)])),
  (.asg (.nm 7) (.call 27 [(.var 0), (.cst (.int 5))])),
  (.ife (.cmp .eq (.var 7) (.cst (.int 0))) [(.setI 3 (.var 5) (.cst (.int 0)))] []),
  (.ife (.cmp .eq (.var 7) (.cst (.int 1))) [(.setI 3 (.var 5) (.idx (.varB 3) (.var 6)))] []),
  (.ife (.cmp .eq (.b1 .max1 (.varB 3)) (.cst (.int 0))) [(.setI 3 (.var 6) (.bin .add (.cst (.int 1)) (.call 27 [(.var 0), (.bin .sub (.var 2) (.cst (.int 1)))])))] []),
  (.ret (.b1 .tuple (.varB 3)))]⟩
def d_l_small_lot : Dc := ⟨PySem.Str.ofString "_law_small_lot", [PySem.Str.ofString "_law_pot_here", PySem.Str.ofString "_law_size", PySem.Str.ofString "_law_far", PySem.Str.ofString "_law_found", PySem.Str.ofString "_law_place", PySem.Str.ofString "_law_at", PySem.Str.ofString "_law_to", PySem.Str.ofString "_law_way"], [PySem.Str.ofString "_law_pot_here", PySem.Str.ofString "_law_size"], topS 55, b_l_small_lot⟩
theorem bd_l_small_lot : Bd d_l_small_lot := fun _ _ _ _ _ _ us hl => match us, hl with | [_, _], _ => rfl
/-- _law_told: 0=_law_way 1=_law_lot 2=_law_number 3=_law_e -/
def b_l_told : Fn := ⟨3, 4, [
  (.tri [(.ife (.cmp .lt (.var 0) (.cst (.int 4))) [(.expr (.sel [15, 16, 17, 18] (.var 0) [(.var 1)]))] [(.ife (.cmp .eq (.var 0) (.cst (.int 4))) [(.expr (.call 23 [(.var 1), (.var 2), (.cst .non)]))] [(.expr (.sel [21, 24] (.bin .sub (.var 0) (.cst (.int 5))) [(.var 1), (.var 2)]))])])] 3 kinW),
  (.ret (.cst (.str (PySem.Str.ofString "told"))))]⟩
def d_l_told : Dc := ⟨PySem.Str.ofString "_law_told", [PySem.Str.ofString "_law_way", PySem.Str.ofString "_law_lot", PySem.Str.ofString "_law_number", PySem.Str.ofString "_law_e"], [PySem.Str.ofString "_law_way", PySem.Str.ofString "_law_lot", PySem.Str.ofString "_law_number"], topS 56, b_l_told⟩
theorem bd_l_told : Bd d_l_told := fun _ _ _ _ _ _ us hl => match us, hl with | [_, _, _], _ => rfl
/-- law: 0=_law_script 1=_law_at 2=_law_pot_here 3=_law_lot 4=_law_none 5=_law_place 6=_law_great 7=_law_bad 8=_law_way 9=_law_good -/
def b_law : Fn := ⟨1, 10, [
  (.for_ (.nm 1) (.r1 (.b2 .max2 (.cst (.int 1)) (.b2 .min2 (.b1 .len (.var 0)) (.cst (.int 8))))) [(.asg (.nm 2) (.call 26 [(.call 25 [(.var 0), (.var 1)])])), (.asg (.nm 3) (.call 30 [(.var 2), (.bin .add (.cst (.int 2)) (.call 27 [(.var 2), (.cst (.int 2))]))])), (.asg (.nm 4) (.call 29 [(.var 2), (.var 3)])), (.asg (.nm 5) (.call 27 [(.var 2), (.b1 .len (.var 3))])), (.asg (.nm 6) (.bin .add (.bin .add (.slT (.var 3) (.var 5)) (.tup [(.idx (.lst [(.cst (.int 1001)), (.bin .pow (.cst (.int 10)) (.cst (.int 39))), (.cst (.int 1002))]) (.call 27 [(.var 2), (.cst (.int 3))]))])) (.slF (.var 3) (.bin .add (.var 5) (.cst (.int 1)))))), (.asg (.nm 7) (.idx (.lst [(.cst (.int 0)), (.cst (.int 9)), (.neg (.cst (.int 1))), (.cst (.bool true)), (.cst .non), (.cst (.str (PySem.Str.ofString "1"))), (.tup [(.cst (.int 1))]), (.bin .pow (.cst (.int 10)) (.cst (.int 39)))]) (.call 27 [(.var 2), (.cst (.int 8))]))), (.for_ (.nm 8) (.r1 (.cst (.int 7))) [(.ife (.or (.cmp .ne (.call 31 [(.var 8), (.var 4), (.var 7)]) (.cst (.str (PySem.Str.ofString "lot")))) (.cmp .ne (.call 31 [(.var 8), (.var 6), (.var 7)]) (.cst (.str (PySem.Str.ofString "many"))))) [(.ret (.cst (.bool false)))] []), (.ife (.or (.cmp .ne (.call 31 [(.var 8), (.var 4), (.cst (.int 1))]) (.cst (.str (PySem.Str.ofString "lot")))) (.cmp .ne (.call 31 [(.var 8), (.var 6), (.cst (.int 8))]) (.cst (.str (PySem.Str.ofString "many"))))) [(.ret (.cst (.bool false)))] [])]), (.ife (.cmp .ne (.comp (.call 31 [(.var 8), (.var 3), (.var 7)]) (.nm 8) (.r2 (.cst (.int 4)) (.cst (.int 7))) [] [8]) (.bin .mul (.lst [(.cst (.str (PySem.Str.ofString "number")))]) (.cst (.int 3)))) [(.ret (.cst (.bool false)))] [])]),
  (.asg (.nm 9) (.bin .add (.comp (.call 31 [(.var 8), (.tup [(.cst (.int 1000)), (.cst (.int 1))]), (.cst (.int 8))]) (.nm 8) (.r1 (.cst (.int 7))) [] [8]) (.comp (.call 31 [(.var 8), (.tup [(.cst (.int 0)), (.cst (.int 1000))]), (.cst (.int 1))]) (.nm 8) (.r1 (.cst (.int 7))) [] [8]))),
  (.ret (.cmp .eq (.var 9) (.bin .mul (.lst [(.cst (.str (PySem.Str.ofString "told")))]) (.cst (.int 14)))))]⟩
def d_law : Dc := ⟨PySem.Str.ofString "law", [PySem.Str.ofString "_law_script", PySem.Str.ofString "_law_at", PySem.Str.ofString "_law_pot_here", PySem.Str.ofString "_law_lot", PySem.Str.ofString "_law_none", PySem.Str.ofString "_law_place", PySem.Str.ofString "_law_great", PySem.Str.ofString "_law_bad", PySem.Str.ofString "_law_way", PySem.Str.ofString "_law_good"], [PySem.Str.ofString "_law_script"], topS 57, b_law⟩
theorem bd_law : Bd d_law := fun _ _ _ _ _ _ us hl => match us, hl with | [_], _ => rfl
def ds : List Dc := [d_is_whole, d_is_upto, d_are_whole, d_is_lot, d_check_lot, d_common_of, d_sum_of, d_check_small, d_both_signs, d_of_two, d_tuples_in, d_with_weight, d_least_by_weight, d_of_length, d_least_by_length, d_by_weight, d_by_length, d_least_weight, d_least_length, d_check_clash, d_clash_of, d_has_none, d_are_often, d_is_clash, d_first_clash, d_l_cell_at, d_l_pot, d_l_take, d_l_kind_of, d_l_no_lot, d_l_small_lot, d_l_told, d_law]
theorem bds : Bds ds := ⟨bd_is_whole, bd_is_upto, bd_are_whole, bd_is_lot, bd_check_lot, bd_common_of, bd_sum_of, bd_check_small, bd_both_signs, bd_of_two, bd_tuples_in, bd_with_weight, bd_least_by_weight, bd_of_length, bd_least_by_length, bd_by_weight, bd_by_length, bd_least_weight, bd_least_length, bd_check_clash, bd_clash_of, bd_has_none, bd_are_often, bd_is_clash, bd_first_clash, bd_l_cell_at, bd_l_pot, bd_l_take, bd_l_kind_of, bd_l_no_lot, bd_l_small_lot, bd_l_told, bd_law, trivial⟩
def tx : Tx := ⟨[PySem.Str.ofString "is_whole", PySem.Str.ofString "is_upto", PySem.Str.ofString "are_whole", PySem.Str.ofString "is_lot", PySem.Str.ofString "check_lot", PySem.Str.ofString "common_of", PySem.Str.ofString "sum_of", PySem.Str.ofString "check_small", PySem.Str.ofString "both_signs", PySem.Str.ofString "of_two", PySem.Str.ofString "tuples_in", PySem.Str.ofString "with_weight", PySem.Str.ofString "least_by_weight", PySem.Str.ofString "of_length", PySem.Str.ofString "least_by_length", PySem.Str.ofString "by_weight", PySem.Str.ofString "by_length", PySem.Str.ofString "least_weight", PySem.Str.ofString "least_length", PySem.Str.ofString "check_clash", PySem.Str.ofString "clash_of", PySem.Str.ofString "has_none", PySem.Str.ofString "are_often", PySem.Str.ofString "is_clash", PySem.Str.ofString "first_clash", PySem.Str.ofString "_law_cell_at", PySem.Str.ofString "_law_pot", PySem.Str.ofString "_law_take", PySem.Str.ofString "_law_kind_of", PySem.Str.ofString "_law_no_lot", PySem.Str.ofString "_law_small_lot", PySem.Str.ofString "_law_told", PySem.Str.ofString "law"], [PySem.Str.ofString "DrawError", PySem.Str.ofString "NoLot", PySem.Str.ofString "NoTable", PySem.Str.ofString "NoTuple", PySem.Str.ofString "NotAlike", PySem.Str.ofString "NotFair", PySem.Str.ofString "NoText", PySem.Str.ofString "NoRule", PySem.Str.ofString "Ended", PySem.Str.ofString "NoBottom", PySem.Str.ofString "NoRoot", PySem.Str.ofString "NoCube", PySem.Str.ofString "NoSize", PySem.Str.ofString "NoNumber", PySem.Str.ofString "TooMany", PySem.Str.ofString "NoStep", PySem.Str.ofString "NoDeed", PySem.Str.ofString "NoRow"], [(PySem.Str.ofString "MOST_SIZE", (.int 4)), (PySem.Str.ofString "GREATEST", (.int 1000)), (PySem.Str.ofString "MOST_CLASH", (.int 8))], some (28, kinW)⟩
theorem tx_fns : tx.fns = ds.map (·.name) := rfl
theorem cks : (ds.all fun d => defB tx d) = true := by decide +kernel
abbrev i_is_whole : Nat := 0
abbrev i_is_upto : Nat := 1
abbrev i_are_whole : Nat := 2
abbrev i_is_lot : Nat := 3
abbrev i_check_lot : Nat := 4
abbrev i_common_of : Nat := 5
abbrev i_sum_of : Nat := 6
abbrev i_check_small : Nat := 7
abbrev i_both_signs : Nat := 8
abbrev i_of_two : Nat := 9
abbrev i_tuples_in : Nat := 10
abbrev i_with_weight : Nat := 11
abbrev i_least_by_weight : Nat := 12
abbrev i_of_length : Nat := 13
abbrev i_least_by_length : Nat := 14
abbrev i_by_weight : Nat := 15
abbrev i_by_length : Nat := 16
abbrev i_least_weight : Nat := 17
abbrev i_least_length : Nat := 18
abbrev i_check_clash : Nat := 19
abbrev i_clash_of : Nat := 20
abbrev i_has_none : Nat := 21
abbrev i_are_often : Nat := 22
abbrev i_is_clash : Nat := 23
abbrev i_first_clash : Nat := 24
abbrev i_l_cell_at : Nat := 25
abbrev i_l_pot : Nat := 26
abbrev i_l_take : Nat := 27
abbrev i_l_kind_of : Nat := 28
abbrev i_l_no_lot : Nat := 29
abbrev i_l_small_lot : Nat := 30
abbrev i_l_told : Nat := 31
abbrev i_law : Nat := 32
abbrev fns : List Fn := ds.map (·.fn)
theorem g_is_whole : fns[i_is_whole]? = some b_is_whole := rfl
theorem g_is_upto : fns[i_is_upto]? = some b_is_upto := rfl
theorem g_are_whole : fns[i_are_whole]? = some b_are_whole := rfl
theorem g_is_lot : fns[i_is_lot]? = some b_is_lot := rfl
theorem g_check_lot : fns[i_check_lot]? = some b_check_lot := rfl
theorem g_common_of : fns[i_common_of]? = some b_common_of := rfl
theorem g_sum_of : fns[i_sum_of]? = some b_sum_of := rfl
theorem g_check_small : fns[i_check_small]? = some b_check_small := rfl
theorem g_both_signs : fns[i_both_signs]? = some b_both_signs := rfl
theorem g_of_two : fns[i_of_two]? = some b_of_two := rfl
theorem g_tuples_in : fns[i_tuples_in]? = some b_tuples_in := rfl
theorem g_with_weight : fns[i_with_weight]? = some b_with_weight := rfl
theorem g_least_by_weight : fns[i_least_by_weight]? = some b_least_by_weight := rfl
theorem g_of_length : fns[i_of_length]? = some b_of_length := rfl
theorem g_least_by_length : fns[i_least_by_length]? = some b_least_by_length := rfl
theorem g_by_weight : fns[i_by_weight]? = some b_by_weight := rfl
theorem g_by_length : fns[i_by_length]? = some b_by_length := rfl
theorem g_least_weight : fns[i_least_weight]? = some b_least_weight := rfl
theorem g_least_length : fns[i_least_length]? = some b_least_length := rfl
theorem g_check_clash : fns[i_check_clash]? = some b_check_clash := rfl
theorem g_clash_of : fns[i_clash_of]? = some b_clash_of := rfl
theorem g_has_none : fns[i_has_none]? = some b_has_none := rfl
theorem g_are_often : fns[i_are_often]? = some b_are_often := rfl
theorem g_is_clash : fns[i_is_clash]? = some b_is_clash := rfl
theorem g_first_clash : fns[i_first_clash]? = some b_first_clash := rfl
theorem g_l_cell_at : fns[i_l_cell_at]? = some b_l_cell_at := rfl
theorem g_l_pot : fns[i_l_pot]? = some b_l_pot := rfl
theorem g_l_take : fns[i_l_take]? = some b_l_take := rfl
theorem g_l_kind_of : fns[i_l_kind_of]? = some b_l_kind_of := rfl
theorem g_l_no_lot : fns[i_l_no_lot]? = some b_l_no_lot := rfl
theorem g_l_small_lot : fns[i_l_small_lot]? = some b_l_small_lot := rfl
theorem g_l_told : fns[i_l_told]? = some b_l_told := rfl
theorem g_law : fns[i_law]? = some b_law := rfl
def loose : List PySem.Str := [PySem.Str.ofString "DrawError", PySem.Str.ofString "NoLot", PySem.Str.ofString "NoTable", PySem.Str.ofString "NoTuple", PySem.Str.ofString "NotAlike", PySem.Str.ofString "NotFair", PySem.Str.ofString "NoText", PySem.Str.ofString "NoRule", PySem.Str.ofString "Ended", PySem.Str.ofString "NoBottom", PySem.Str.ofString "NoRoot", PySem.Str.ofString "NoCube", PySem.Str.ofString "NoSize", PySem.Str.ofString "NoNumber", PySem.Str.ofString "TooMany", PySem.Str.ofString "NoStep", PySem.Str.ofString "NoDeed", PySem.Str.ofString "NoRow", PySem.Str.ofString "MOST_SIZE", PySem.Str.ofString "is_whole", PySem.Str.ofString "is_upto", PySem.Str.ofString "are_whole", PySem.Str.ofString "is_lot", PySem.Str.ofString "check_lot", PySem.Str.ofString "common_of", PySem.Str.ofString "sum_of", PySem.Str.ofString "GREATEST", PySem.Str.ofString "MOST_CLASH", PySem.Str.ofString "check_small", PySem.Str.ofString "both_signs", PySem.Str.ofString "of_two", PySem.Str.ofString "tuples_in", PySem.Str.ofString "with_weight", PySem.Str.ofString "least_by_weight", PySem.Str.ofString "of_length", PySem.Str.ofString "least_by_length", PySem.Str.ofString "by_weight", PySem.Str.ofString "by_length", PySem.Str.ofString "least_weight", PySem.Str.ofString "least_length", PySem.Str.ofString "check_clash", PySem.Str.ofString "clash_of", PySem.Str.ofString "has_none", PySem.Str.ofString "are_often", PySem.Str.ofString "is_clash", PySem.Str.ofString "first_clash", PySem.Str.ofString "_law_cell_at", PySem.Str.ofString "_law_pot", PySem.Str.ofString "_law_take", PySem.Str.ofString "_law_kind_of", PySem.Str.ofString "_law_no_lot", PySem.Str.ofString "_law_small_lot", PySem.Str.ofString "_law_told"]
abbrev R : PySem.W.OpenRow := PySem.W.OpenLaw.row L
abbrev hk : PySem.W.Hook := hookX 4 tx ds
def ob (s : PySem.W.SharedT) : AlX := obsXG 4 tx ds (HandSHeadRun.getT s)
theorem ob_eq (s : PySem.W.SharedT) : ob s = hk.obs s.abs := obsXG_eq (HandSHeadRun.getT_eq s)
theorem run (w : World) : HandSHeadRun.RunEq R (PySem.W.view R.prog [57]) hk ob 8000 loose w := by
  intro os
  kernel_rfl
end L53

set_option Elab.async false
set_option linter.all false
set_option maxRecDepth 100000
set_option maxHeartbeats 1000000
namespace L53
open PySem DD DDS
theorem c_is_whole (n : Nat) (x : Int) (st : Store) : callN fns (n + 1) i_is_whole [.int x] st = .ok (.fz (.bool true)) st := by
  rw [call_of g_is_whole]; rfl

theorem c_is_whole_any (n : Nat) {k : Nat} {d : D} (h : okD k d = true) (st : Store) : callN fns (n + 1) i_is_whole [d] st = .ok (.fz (.bool (isInt d))) st := by
  rw [call_of g_is_whole]
  cases d <;> first | rfl | (cases k <;> cases h)

theorem c_is_upto (n : Nat) (x a b : Int) (st : Store) : callN fns (n + 2) i_is_upto [.int x, .int a, .int b] st = .ok (.fz (.bool (decide (a ≤ x) && decide (x ≤ b)))) st := by
  rw [call_of g_is_upto]
  have e := c_is_whole n x st
  simp [runF, b_is_upto, startE, evSs, evS, evE, evEs, e, W.d]
  by_cases h : a ≤ x <;> simp [h, R.of]

/-- what is no whole number from the one to the other -/
def noUp (a b : Int) : D → Bool
  | .int i => decide (i < a) || decide (b < i)
  | .ref _ => false
  | .scr _ => false
  | .ldic _ _ => false
  | _ => true
theorem c_is_upto_no (n : Nat) {d : D} {a b : Int} (h : noUp a b d = true) (st : Store) : callN fns (n + 2) i_is_upto [d, .int a, .int b] st = .ok (.fz (.bool false)) st := by
  cases d with
  | int i =>
    rw [c_is_upto]
    simp only [noUp, Bool.or_eq_true, decide_eq_true_eq] at h
    have : (decide (a ≤ i) && decide (i ≤ b)) = false := by
      rw [← Bool.not_eq_true, Bool.and_eq_true, decide_eq_true_eq, decide_eq_true_eq]; omega
    rw [this]
  | ref _ => cases h
  | scr _ => cases h
  | non => rw [call_of g_is_upto]; have e := c_is_whole_any n (k := 0) (d := .non) rfl st; simp only [runF, startE, List.map, List.length, List.replicate, List.cons_append, List.nil_append, List.append_nil, Nat.reduceAdd, Nat.reduceSub, if_true, if_false, evSs, evS, evE, evEs, evW, evC, evI_of, tested, R.bind_ok, R.bind_exc, R.of_some, List.getElem?_cons_zero, List.getElem?_cons_succ, W.d, Bool.not_true, Bool.not_false, Bool.false_eq_true, Option.map_some, Option.bind_some, b_is_upto, e, isInt]
  | bool q => rw [call_of g_is_upto]; have e := c_is_whole_any n (k := 0) (d := .bool q) rfl st; simp only [runF, startE, List.map, List.length, List.replicate, List.cons_append, List.nil_append, List.append_nil, Nat.reduceAdd, Nat.reduceSub, if_true, if_false, evSs, evS, evE, evEs, evW, evC, evI_of, tested, R.bind_ok, R.bind_exc, R.of_some, List.getElem?_cons_zero, List.getElem?_cons_succ, W.d, Bool.not_true, Bool.not_false, Bool.false_eq_true, Option.map_some, Option.bind_some, b_is_upto, e, isInt]
  | str q => rw [call_of g_is_upto]; have e := c_is_whole_any n (k := 0) (d := .str q) rfl st; simp only [runF, startE, List.map, List.length, List.replicate, List.cons_append, List.nil_append, List.append_nil, Nat.reduceAdd, Nat.reduceSub, if_true, if_false, evSs, evS, evE, evEs, evW, evC, evI_of, tested, R.bind_ok, R.bind_exc, R.of_some, List.getElem?_cons_zero, List.getElem?_cons_succ, W.d, Bool.not_true, Bool.not_false, Bool.false_eq_true, Option.map_some, Option.bind_some, b_is_upto, e, isInt]
  | tup q => rw [call_of g_is_upto]; have e := c_is_whole_any n (k := 0) (d := .tup q) rfl st; simp only [runF, startE, List.map, List.length, List.replicate, List.cons_append, List.nil_append, List.append_nil, Nat.reduceAdd, Nat.reduceSub, if_true, if_false, evSs, evS, evE, evEs, evW, evC, evI_of, tested, R.bind_ok, R.bind_exc, R.of_some, List.getElem?_cons_zero, List.getElem?_cons_succ, W.d, Bool.not_true, Bool.not_false, Bool.false_eq_true, Option.map_some, Option.bind_some, b_is_upto, e, isInt]
  | lst q => rw [call_of g_is_upto]; have e := c_is_whole_any n (k := 0) (d := .lst q) rfl st; simp only [runF, startE, List.map, List.length, List.replicate, List.cons_append, List.nil_append, List.append_nil, Nat.reduceAdd, Nat.reduceSub, if_true, if_false, evSs, evS, evE, evEs, evW, evC, evI_of, tested, R.bind_ok, R.bind_exc, R.of_some, List.getElem?_cons_zero, List.getElem?_cons_succ, W.d, Bool.not_true, Bool.not_false, Bool.false_eq_true, Option.map_some, Option.bind_some, b_is_upto, e, isInt]
  | dic q s => rw [call_of g_is_upto]; have e := c_is_whole_any n (k := 0) (d := .dic q s) rfl st; simp only [runF, startE, List.map, List.length, List.replicate, List.cons_append, List.nil_append, List.append_nil, Nat.reduceAdd, Nat.reduceSub, if_true, if_false, evSs, evS, evE, evEs, evW, evC, evI_of, tested, R.bind_ok, R.bind_exc, R.of_some, List.getElem?_cons_zero, List.getElem?_cons_succ, W.d, Bool.not_true, Bool.not_false, Bool.false_eq_true, Option.map_some, Option.bind_some, b_is_upto, e, isInt]
  | ldic q s => cases h

theorem c_are_whole (n : Nat) (xs : List Int) (hl : xs.length ≤ 1000) (st : Store) : callN fns (n + 2) i_are_whole [ti xs, .int xs.length] st = .ok (.fz (.bool true)) st := by
  rw [call_of g_are_whole]
  simp [runF, b_are_whole, startE, evSs, evS, evE, evEs, evI_of, evC, isTy, wipe]
  rw [compGo_map (g := fun _ => .bool true) (xs.map D.int)]
  · rw [lined_ok (by simp; omega)]
    simp [all_true, Function.comp_def]
  · intro x hx
    obtain ⟨y, _, rfl⟩ := List.mem_map.mp hx
    refine ⟨_, rfl, rfl, ?_⟩
    simp [c_is_whole, W.d]

theorem c_are_whole_any (n : Nat) {k : Nat} {ds : List D} (h : okD (k + 1) (.tup ds) = true) (m : Int) (st : Store) : callN fns (n + 2) i_are_whole [.tup ds, .int m] st = .ok (.fz (.bool (((ds.length : Int) == m) && ds.all isInt))) st := by
  rw [call_of g_are_whole]
  obtain ⟨hl, hk⟩ := okD_tup h
  simp only [runF, b_are_whole, startE, List.map, List.length, List.replicate, List.cons_append, List.nil_append, Nat.reduceAdd, Nat.reduceSub, if_true, evSs, evS, evE, evEs, evI_of, evC, R.bind_ok, R.of_some, List.getElem?_cons_zero, List.getElem?_cons_succ, isTys_tup, List.any, isTy, Bool.or_false, Option.map_some, len_tup, cmp_eqI, itD_tup, wipe, List.set]
  cases e : ((ds.length : Int) == m) with
  | false => simp only [Bool.false_and, R.bind_ok]
  | true =>
    rw [compGo_map (g := fun d => .bool (isInt d)) ds]
    · rw [lined_ok (by rw [List.length_map]; omega)]
      simp only [R.bind_ok, all_bools, R.of_some, Bool.true_and]
    · intro x hx
      refine ⟨_, rfl, rfl, ?_⟩
      simp only [List.getElem?_cons_zero, List.getElem?_cons_succ, List.set, R.bind_ok, c_is_whole_any n (hk x hx), W.d]
theorem c_are_whole_no (n : Nat) {k : Nat} {d : D} (h : okD k d = true) (ht : ∀ ds, d ≠ .tup ds) (m : D) (st : Store) : callN fns (n + 1) i_are_whole [d, m] st = .ok (.fz (.bool false)) st := by
  rw [call_of g_are_whole]
  cases d with
  | tup ds => exact absurd rfl (ht ds)
  | ref _ => cases k <;> cases h
  | scr _ => cases k <;> cases h
  | ldic _ _ => cases k <;> cases h
  | _ => rfl

theorem c_is_lot (n : Nat) {b : Nat} {xs : List Int} (h : Lot b xs) (st : Store) : callN fns (n + 3) i_is_lot [ti xs] st = .ok (.fz (.bool true)) st := by
  rw [call_of g_is_lot]
  have h2 := h.l2; have h4 := h.l4
  have e := c_are_whole n xs (by omega) st
  have ne : xs ≠ [] := by intro z; rw [z] at h2; simp at h2
  obtain ⟨m, em, hm, _⟩ := minI_ok ne
  obtain ⟨m', em', hm', hle⟩ := maxI_ok ne
  have hm0 := h.nn m hm
  obtain ⟨x, hx, hx0⟩ := h.ps
  have hm1 := hle x hx
  have a1 : decide ((2:Int) ≤ (xs.length : Int)) = true := by rw [decide_eq_true_eq]; omega
  have a2 : decide ((xs.length : Int) ≤ 4) = true := by rw [decide_eq_true_eq]; omega
  have a3 : decide (m ≥ 0) = true := by rw [decide_eq_true_eq]; omega
  have a4 : decide (m' > 0) = true := by rw [decide_eq_true_eq]; omega
  simp only [runF, b_is_lot, startE, List.map, List.length, List.replicate, List.append_nil, Nat.reduceAdd, Nat.reduceSub, if_true, evSs, evS, evE, evEs, tested, R.bind_ok, R.of_some, List.getElem?_cons_zero, ti_tuple, ti_len, ti_min, ti_max, Option.map_some, Bool.not_true, cmp_le, cmp_ge, cmp_gt, a1, a2, a3, a4, e, W.d, em, em', Bool.false_eq_true, if_false]

theorem c_is_lot_no (n : Nat) {k : Nat} {d : D} (h : okD (k + 1) d = true) (hn : ∀ xs, d = ti xs → ¬ Lot 200 xs) (st : Store) : callN fns (n + 3) i_is_lot [d] st = .ok (.fz (.bool false)) st := by
  rw [call_of g_is_lot]
  cases d with
  | ref _ => cases h
  | scr _ => cases h
  | tup ds =>
    have e := c_are_whole_any n h ds.length st
    obtain ⟨hl, hk⟩ := okD_tup h
    rw [show (((ds.length : Int) == (ds.length : Int)) && ds.all isInt) = ds.all isInt by simp] at e
    simp only [runF, b_is_lot, startE, List.map, List.length, List.replicate, List.append_nil, Nat.reduceAdd, Nat.reduceSub, if_true, evSs, evS, evE, evEs, tested, R.bind_ok, R.of_some, List.getElem?_cons_zero, isTys_tup, List.any, isTy, Bool.or_false, len_tup, Option.map_some, Bool.not_true, cmp_le]
    by_cases h2 : (2 : Int) ≤ ds.length
    · simp only [h2, decide_true, R.bind_ok, cmp_le, Option.map_some, R.of_some]
      by_cases h4 : (ds.length : Int) ≤ 4
      · simp only [h4, decide_true, Bool.not_true, R.bind_ok, e, W.d]
        rcases ints_or ds with ⟨xs, rfl⟩ | ha
        · rw [all_isInt]
          have l2 : 2 ≤ xs.length := by rw [List.length_map] at h2; omega
          have ne : xs ≠ [] := by intro z; rw [z] at l2; simp at l2
          obtain ⟨m, em, hm, hmin⟩ := minI_ok ne
          obtain ⟨m', em', hm', hle⟩ := maxI_ok ne
          simp only [Bool.not_true, R.bind_ok, Bool.false_eq_true, if_false, List.getElem?_cons_zero, min1_tup, max1_tup, em, em', Option.map_some, R.of_some, cmp_ge, cmp_gt, ti_mk, ti_min, ti_max]
          by_cases c1 : m ≥ 0
          · simp only [c1, decide_true, R.bind_ok, cmp_gt, Option.map_some, R.of_some, ti_max, em', List.getElem?_cons_zero]
            by_cases c2 : m' > 0
            · refine absurd ⟨l2, by rw [List.length_map] at h4; omega, fun x hx => Int.le_trans c1 (hmin x hx), ⟨m', hm', c2⟩, fun x hx => ?_⟩ (hn xs rfl)
              have := bv_okD hk x hx
              omega
            · simp only [c2, decide_false]
          · simp only [c1, decide_false, R.bind_ok]
        · rw [ha]
          simp only [Bool.not_false, R.bind_ok, if_true]
      · simp only [h4, decide_false, Bool.not_false, R.bind_ok, if_true]
    · simp only [h2, decide_false, Bool.not_false, R.bind_ok, if_true]
  | ldic _ _ => cases h
  | _ => rfl

theorem c_check_lot (n : Nat) {b : Nat} {xs : List Int} (h : Lot b xs) (st : Store) : callN fns (n + 4) i_check_lot [ti xs] st = .ok (.fz .non) st := by
  rw [call_of g_check_lot]
  have e := c_is_lot n h st
  simp only [runF, b_check_lot, startE, List.map, List.length, List.replicate, List.append_nil, Nat.reduceAdd, Nat.reduceSub, if_true, evSs, evS, evE, evEs, tested, R.bind_ok, List.getElem?_cons_zero, e, W.d, Bool.not_true, Bool.false_eq_true, if_false]

theorem c_check_lot_no (n : Nat) {k : Nat} {d : D} (h : okD (k + 1) d = true) (hn : ∀ xs, d = ti xs → ¬ Lot 200 xs) (st : Store) : callN fns (n + 4) i_check_lot [d] st = .exc 1 st := by
  rw [call_of g_check_lot]
  have e := c_is_lot_no n h hn st
  simp only [runF, b_check_lot, startE, List.map, List.length, List.replicate, List.append_nil, Nat.reduceAdd, Nat.reduceSub, if_true, evSs, evS, evE, evEs, tested, R.bind_ok, R.bind_exc, List.getElem?_cons_zero, e, W.d, Bool.not_false]

theorem c_common_of (n : Nat) (xs : List Int) (st : Store) : callN fns (n + 1) i_common_of [ti xs] st = .ok (.fz (.int (gcdN xs))) st := by
  suffices H : Ok (callN fns (n + 1) i_common_of [ti xs] st) fun w st' => w = .fz (.int (gcdN xs)) ∧ st' = st by
    obtain ⟨w, st', e, rfl, rfl⟩ := H
    exact e
  refine ok_call g_common_of rfl ?_
  unfold b_common_of
  simp only [startE, List.map, List.length, List.replicate, List.cons_append, List.nil_append, Nat.reduceAdd, Nat.reduceSub]
  refine ok_seq ?_
  simp only [evS, evE, R.bind_ok, R.of_some, bindT, List.length, Nat.reduceAdd, Nat.reduceLT, if_true, Option.map_some, List.set, ok_ok_iff, aft_next]
  refine ok_seq ?_
  simp only [evS, evE, evI_of, R.bind_ok, List.getElem?_cons_zero, itD_ti]
  have wh : ∀ (o : Nat) (f : Nat) (w0 w2 : W) (st : Store), whC (fun env st => tested (evE (callN fns n) (.cmp .gt (.var 3) (.cst (.int 0))) env st)) (fun env st => evSs (callN fns n) [(.par 1 3 (.var 3) (.bin .mod (.var 1) (.var 3)))] env st) [w0, .fz (.int f), w2, .fz (.int o)] st = .ok (.next [w0, .fz (.int (Nat.gcd f o)), w2, .fz (.int 0)]) st := by
    intro o
    induction o using Nat.strongRecOn with
    | ind o ih =>
      intro f w0 w2 st
      by_cases h : o = 0
      · subst h
        have a : decide (((0 : Nat) : Int) > 0) = false := by decide
        rw [wh_stop (st' := st) (by simp only [tested, evE, R.bind_ok, R.of_some, List.getElem?_cons_zero, List.getElem?_cons_succ, cmp_gt, a, Option.map_some]), Nat.gcd_zero_right]
        rfl
      · have a : decide ((o : Int) > 0) = true := by rw [decide_eq_true_eq]; omega
        have ho : (o : Int) ≠ 0 := by omega
        have em : (f : Int).fmod (o : Int) = ((f % o : Nat) : Int) := by
          rw [Int.fmod_eq_emod_of_nonneg _ (by omega)]; rfl
        rw [wh_turn (st1 := st) (st' := st) (env' := [w0, .fz (.int o), w2, .fz (.int ((f % o : Nat) : Int))]) (by simp only [tested, evE, R.bind_ok, R.of_some, List.getElem?_cons_zero, List.getElem?_cons_succ, cmp_gt, a, Option.map_some])
          (by simp only [evE, evS, evSs, R.bind_ok, R.of_some, List.getElem?_cons_zero, List.getElem?_cons_succ, bin_mod ho, em, List.length, Nat.reduceAdd, Nat.reduceLT, and_self, if_true, List.set])]
        rw [ih (f % o) (Nat.mod_lt _ (by omega)) o w0 w2 st]
        have eg : Nat.gcd o (f % o) = Nat.gcd f o := by rw [Nat.gcd_comm o, ← Nat.gcd_rec, Nat.gcd_comm]
        rw [eg]
  refine (forGo_idx (I := fun j env st' => st' = st ∧ ∃ w2 w3, env = [W.fz (ti xs), .fz (.int ((xs.take j).foldl (fun g x => Nat.gcd g x.natAbs) 0 : Nat)), w2, w3]) _ 0 _ st ⟨rfl, _, _, rfl⟩ ?_).mono ?_
  · rintro j x hx env st' ⟨rfl, w2, w3, rfl⟩
    rw [List.getElem?_map] at hx
    obtain ⟨y, hy, rfl⟩ := Option.map_eq_some_iff.mp hx
    refine ⟨_, rfl, ?_⟩
    simp only [List.set]
    refine ok_seq ?_
    have ea : (if y < 0 then -y else y) = ((y.natAbs : Nat) : Int) := by split <;> omega
    simp only [evS, evE, R.bind_ok, R.of_some, List.getElem?_cons_zero, List.getElem?_cons_succ, abs_int, ea, bindT, List.length, Nat.reduceAdd, Nat.reduceLT, if_true, Option.map_some, List.set, ok_ok_iff, aft_next]
    refine ok_seq ?_
    simp only [evS]
    rw [wh]
    refine ok_ok ?_
    rw [aft_next]
    refine ok_nil ?_
    refine ⟨_, rfl, rfl, .fz (.int y), .fz (.int 0), ?_⟩
    obtain ⟨hj, ey⟩ := List.getElem?_eq_some_iff.mp hy
    rw [Nat.zero_add, List.take_succ_eq_append_getElem hj, List.foldl_append, ey]
    rfl
  · rintro _ st' ⟨env2, rfl, rfl, w2, w3, rfl⟩
    rw [aft_next]
    refine ok_seq ?_
    simp only [evS, evE, R.bind_ok, List.getElem?_cons_zero, List.getElem?_cons_succ, ok_ok_iff, aft_ret, outQ_ret, and_true]
    rw [List.length_map, Nat.zero_add, List.take_length]; rfl

theorem c_sum_of (n : Nat) {d e : D} {xs ys : List Int} (hd : d.items = some (xs.map .int)) (he : e.items = some (ys.map .int)) {a b : Nat} (hx : Bv a xs) (hy : Bv b ys) (hab : a + b < 100000000) (hl : xs.length ≤ 1000) (st : Store) : callN fns (n + 1) i_sum_of [d, e] st = .ok (.fz (.int (dot xs ys))) st := by
  rw [call_of g_sum_of]
  simp only [runF, b_sum_of, startE, List.map, List.length, List.replicate, List.cons_append, List.nil_append, Nat.reduceAdd, Nat.reduceSub, if_true, evSs, evS, evE, evEs, evI, evC, R.bind_ok, R.of_some, List.getElem?_cons_zero, List.getElem?_cons_succ, hd, he, wipe, List.set]
  have ez : List.zipWith (fun x y => D.tup [x, y]) (xs.map D.int) (ys.map D.int) = (xs.zip ys).map fun p => D.tup [.int p.1, .int p.2] := by
    rw [List.zipWith_map, List.zip_eq_zipWith, List.map_zipWith]
  rw [ez, compGo_mapA (g := fun p => .int (p.1 * p.2))]
  rotate_left
  · intro p hp
    refine ⟨_, rfl, rfl, ?_⟩
    have h := List.of_mem_zip hp
    have m : mulOk p.1 p.2 = true := mulOk_of a b (hx _ h.1) (hy _ h.2) hab
    simp only [List.getElem?_cons_zero, List.getElem?_cons_succ, List.set, R.bind_ok, bin_mul m, R.of_some]
  rw [lined_ok (by simp; omega)]
  have es : ((xs.zip ys).map fun p => D.int (p.1 * p.2)) = (List.zipWith (fun a b => a * b) xs ys).map .int := by
    rw [List.zip_eq_zipWith, List.map_zipWith, List.map_zipWith]
  simp only [es, R.bind_ok, sum_lst, R.of_some, dot]

theorem c_check_small (n : Nat) {xs : List Int} (L : Lot 200 xs) (hs : ∀ x ∈ xs, x ≤ 1000) (st : Store) : callN fns (n + 5) i_check_small [ti xs] st = .ok (.fz .non) st := by
  have e := c_check_lot n L st
  obtain ⟨m, em, hm, hle⟩ := maxI_ok (xs := xs) (by intro z; have := L.l2; rw [z] at this; simp at this)
  have : decide (m > 1000) = false := decide_eq_false (by have := hs m hm; omega)
  rw [call_of g_check_small]
  simp only [runF, startE, List.map, List.length, List.replicate, List.cons_append, List.nil_append, List.append_nil, Nat.reduceAdd, Nat.reduceSub, if_true, if_false, evSs, evS, evE, evEs, evW, evC, evI_of, tested, R.bind_ok, R.bind_exc, R.of_some, List.getElem?_cons_zero, List.getElem?_cons_succ, W.d, Bool.not_true, Bool.not_false, Bool.false_eq_true, Option.map_some, Option.bind_some, b_check_small, e, ti_max, em, cmp_gt, this]
theorem c_check_small_no (n : Nat) {k : Nat} {d : D} (h : okD (k + 1) d = true) (hn : ∀ xs, d = ti xs → ¬ Lot 200 xs) (st : Store) : callN fns (n + 5) i_check_small [d] st = .exc 1 st := by
  have e := c_check_lot_no n h hn st
  rw [call_of g_check_small]
  simp only [runF, startE, List.map, List.length, List.replicate, List.cons_append, List.nil_append, List.append_nil, Nat.reduceAdd, Nat.reduceSub, if_true, if_false, evSs, evS, evE, evEs, evW, evC, evI_of, tested, R.bind_ok, R.bind_exc, R.of_some, List.getElem?_cons_zero, List.getElem?_cons_succ, W.d, Bool.not_true, Bool.not_false, Bool.false_eq_true, Option.map_some, Option.bind_some, b_check_small, e]
theorem c_check_small_many (n : Nat) {xs : List Int} (L : Lot 200 xs) (hs : ∃ x ∈ xs, 1000 < x) (st : Store) : callN fns (n + 5) i_check_small [ti xs] st = .exc 14 st := by
  have e := c_check_lot n L st
  obtain ⟨m, em, hm, hle⟩ := maxI_ok (xs := xs) (by intro z; have := L.l2; rw [z] at this; simp at this)
  have : decide (m > 1000) = true := decide_eq_true (by obtain ⟨x, hx, h⟩ := hs; have := hle x hx; omega)
  rw [call_of g_check_small]
  simp only [runF, startE, List.map, List.length, List.replicate, List.cons_append, List.nil_append, List.append_nil, Nat.reduceAdd, Nat.reduceSub, if_true, if_false, evSs, evS, evE, evEs, evW, evC, evI_of, tested, R.bind_ok, R.bind_exc, R.of_some, List.getElem?_cons_zero, List.getElem?_cons_succ, W.d, Bool.not_true, Bool.not_false, Bool.false_eq_true, Option.map_some, Option.bind_some, b_check_small, e, ti_max, em, cmp_gt, this]

theorem c_of_two_a (n : Nat) (st : Store) : callN fns (n + 2) i_of_two [ti [1000, 1]] st = .ok (.own [ti [-1, 1000], ti [1, -1000]]) st := by
  have h := c_common_of n [1000, 1] st
  rw [show gcdN [1000, 1] = 1 by decide +kernel] at h
  have e : callN fns (n + 1) i_both_signs [.tup [.int 1, .int (0 - 1000)]] st = .ok (.own [ti [-1, 1000], ti [1, -1000]]) st := by kernel_rfl
  have i1 : idxD (ti [1000, 1]) (.int 1) = some (.int 1) := rfl
  have i0 : idxD (ti [1000, 1]) (.int 0) = some (.int 1000) := rfl
  have f1 : binop .fdiv (.int 1) (.int ((1 : Nat) : Int)) = some (.int 1) := by kernel_rfl
  have f0 : binop .fdiv (.int 1000) (.int ((1 : Nat) : Int)) = some (.int 1000) := by kernel_rfl
  rw [call_of g_of_two]
  simp only [runF, startE, List.map, List.length, List.replicate, List.cons_append, List.nil_append, List.append_nil, Nat.reduceAdd, Nat.reduceSub, if_true, if_false, evSs, evS, evE, evEs, evW, evC, evI_of, tested, R.bind_ok, R.bind_exc, R.of_some, List.getElem?_cons_zero, List.getElem?_cons_succ, W.d, Bool.not_true, Bool.not_false, Bool.false_eq_true, Option.map_some, Option.bind_some, b_of_two, h, bindT, Nat.reduceLT, List.set, i1, i0, f1, f0, bin_sub, lim, Nat.reduceLeDiff, e]
theorem c_of_two_b (n : Nat) (st : Store) : callN fns (n + 2) i_of_two [ti [0, 1000]] st = .ok (.own [ti [-1, 0], ti [1, 0]]) st := by
  have h := c_common_of n [0, 1000] st
  rw [show gcdN [0, 1000] = 1000 by decide +kernel] at h
  have e : callN fns (n + 1) i_both_signs [.tup [.int 1, .int (0 - 0)]] st = .ok (.own [ti [-1, 0], ti [1, 0]]) st := by kernel_rfl
  have i1 : idxD (ti [0, 1000]) (.int 1) = some (.int 1000) := rfl
  have i0 : idxD (ti [0, 1000]) (.int 0) = some (.int 0) := rfl
  have f1 : binop .fdiv (.int 1000) (.int ((1000 : Nat) : Int)) = some (.int 1) := by kernel_rfl
  have f0 : binop .fdiv (.int 0) (.int ((1000 : Nat) : Int)) = some (.int 0) := by kernel_rfl
  rw [call_of g_of_two]
  simp only [runF, startE, List.map, List.length, List.replicate, List.cons_append, List.nil_append, List.append_nil, Nat.reduceAdd, Nat.reduceSub, if_true, if_false, evSs, evS, evE, evEs, evW, evC, evI_of, tested, R.bind_ok, R.bind_exc, R.of_some, List.getElem?_cons_zero, List.getElem?_cons_succ, W.d, Bool.not_true, Bool.not_false, Bool.false_eq_true, Option.map_some, Option.bind_some, b_of_two, h, bindT, Nat.reduceLT, List.set, i1, i0, f1, f0, bin_sub, lim, Nat.reduceLeDiff, e]

theorem c_least_by_weight_2 (n : Nat) {a b : Int} {w : W} {st : Store} (h : callN fns n i_of_two [ti [a, b]] st = .ok w st) : callN fns (n + 1) i_least_by_weight [ti [a, b]] st = .ok w st := by
  have l : bi1 .len (ti [a, b]) = some (.int 2) := rfl
  rw [call_of g_least_by_weight]
  simp only [runF, startE, List.map, List.length, List.replicate, List.cons_append, List.nil_append, List.append_nil, Nat.reduceAdd, Nat.reduceSub, if_true, if_false, evSs, evS, evE, evEs, evW, evC, evI_of, tested, R.bind_ok, R.bind_exc, R.of_some, List.getElem?_cons_zero, List.getElem?_cons_succ, W.d, Bool.not_true, Bool.not_false, Bool.false_eq_true, Option.map_some, Option.bind_some, b_least_by_weight, l, cmp_eqI, BEq.rfl, h]

theorem c_least_by_length_2 (n : Nat) {a b : Int} {w : W} {st : Store} (h : callN fns n i_of_two [ti [a, b]] st = .ok w st) : callN fns (n + 1) i_least_by_length [ti [a, b]] st = .ok w st := by
  have l : bi1 .len (ti [a, b]) = some (.int 2) := rfl
  rw [call_of g_least_by_length]
  simp only [runF, startE, List.map, List.length, List.replicate, List.cons_append, List.nil_append, List.append_nil, Nat.reduceAdd, Nat.reduceSub, if_true, if_false, evSs, evS, evE, evEs, evW, evC, evI_of, tested, R.bind_ok, R.bind_exc, R.of_some, List.getElem?_cons_zero, List.getElem?_cons_succ, W.d, Bool.not_true, Bool.not_false, Bool.false_eq_true, Option.map_some, Option.bind_some, b_least_by_length, l, cmp_eqI, BEq.rfl, h]

theorem c_by_weight_ex (n : Nat) {d : D} {c : Nat} {st : Store} (h : callN fns n i_check_small [d] st = .exc c st) : callN fns (n + 1) i_by_weight [d] st = .exc c st := by
  rw [call_of g_by_weight]
  simp only [runF, startE, List.map, List.length, List.replicate, List.cons_append, List.nil_append, List.append_nil, Nat.reduceAdd, Nat.reduceSub, if_true, if_false, evSs, evS, evE, evEs, evW, evC, evI_of, tested, R.bind_ok, R.bind_exc, R.of_some, List.getElem?_cons_zero, List.getElem?_cons_succ, W.d, Bool.not_true, Bool.not_false, Bool.false_eq_true, Option.map_some, Option.bind_some, b_by_weight, h]
theorem c_by_weight_ok (n : Nat) {d : D} {w u : W} {st : Store} (h : callN fns n i_check_small [d] st = .ok w st) (h2 : callN fns n i_least_by_weight [d] st = .ok u st) : callN fns (n + 1) i_by_weight [d] st = .ok u st := by
  rw [call_of g_by_weight]
  simp only [runF, startE, List.map, List.length, List.replicate, List.cons_append, List.nil_append, List.append_nil, Nat.reduceAdd, Nat.reduceSub, if_true, if_false, evSs, evS, evE, evEs, evW, evC, evI_of, tested, R.bind_ok, R.bind_exc, R.of_some, List.getElem?_cons_zero, List.getElem?_cons_succ, W.d, Bool.not_true, Bool.not_false, Bool.false_eq_true, Option.map_some, Option.bind_some, b_by_weight, h, h2]

theorem c_by_length_ex (n : Nat) {d : D} {c : Nat} {st : Store} (h : callN fns n i_check_small [d] st = .exc c st) : callN fns (n + 1) i_by_length [d] st = .exc c st := by
  rw [call_of g_by_length]
  simp only [runF, startE, List.map, List.length, List.replicate, List.cons_append, List.nil_append, List.append_nil, Nat.reduceAdd, Nat.reduceSub, if_true, if_false, evSs, evS, evE, evEs, evW, evC, evI_of, tested, R.bind_ok, R.bind_exc, R.of_some, List.getElem?_cons_zero, List.getElem?_cons_succ, W.d, Bool.not_true, Bool.not_false, Bool.false_eq_true, Option.map_some, Option.bind_some, b_by_length, h]
theorem c_by_length_ok (n : Nat) {d : D} {w u : W} {st : Store} (h : callN fns n i_check_small [d] st = .ok w st) (h2 : callN fns n i_least_by_length [d] st = .ok u st) : callN fns (n + 1) i_by_length [d] st = .ok u st := by
  rw [call_of g_by_length]
  simp only [runF, startE, List.map, List.length, List.replicate, List.cons_append, List.nil_append, List.append_nil, Nat.reduceAdd, Nat.reduceSub, if_true, if_false, evSs, evS, evE, evEs, evW, evC, evI_of, tested, R.bind_ok, R.bind_exc, R.of_some, List.getElem?_cons_zero, List.getElem?_cons_succ, W.d, Bool.not_true, Bool.not_false, Bool.false_eq_true, Option.map_some, Option.bind_some, b_by_length, h, h2]

theorem c_least_weight_ex (n : Nat) {d : D} {c : Nat} {st : Store} (h : callN fns n i_check_small [d] st = .exc c st) : callN fns (n + 1) i_least_weight [d] st = .exc c st := by
  rw [call_of g_least_weight]
  simp only [runF, startE, List.map, List.length, List.replicate, List.cons_append, List.nil_append, List.append_nil, Nat.reduceAdd, Nat.reduceSub, if_true, if_false, evSs, evS, evE, evEs, evW, evC, evI_of, tested, R.bind_ok, R.bind_exc, R.of_some, List.getElem?_cons_zero, List.getElem?_cons_succ, W.d, Bool.not_true, Bool.not_false, Bool.false_eq_true, Option.map_some, Option.bind_some, b_least_weight, h]
theorem c_least_weight_ok (n : Nat) {d : D} {w : W} {a b : Int} {e : D} {st : Store} (h : callN fns n i_check_small [d] st = .ok w st) (h2 : callN fns n i_least_by_weight [d] st = .ok (.own [ti [a, b], e]) st) : ∃ u, callN fns (n + 1) i_least_weight [d] st = .ok u st := by
  rw [call_of g_least_weight]
  have i0 : idxD (.lst [ti [a, b], e]) (.int 0) = some (ti [a, b]) := rfl
  simp only [runF, startE, List.map, List.length, List.replicate, List.cons_append, List.nil_append, List.append_nil, Nat.reduceAdd, Nat.reduceSub, if_true, if_false, evSs, evS, evE, evEs, evW, evC, evI_of, tested, R.bind_ok, R.bind_exc, R.of_some, List.getElem?_cons_zero, List.getElem?_cons_succ, W.d, Bool.not_true, Bool.not_false, Bool.false_eq_true, Option.map_some, Option.bind_some, b_least_weight, h, h2, i0, itD_ti]
  exact ⟨_, rfl⟩

theorem c_least_length_ex (n : Nat) {d : D} {c : Nat} {st : Store} (h : callN fns n i_check_small [d] st = .exc c st) : callN fns (n + 1) i_least_length [d] st = .exc c st := by
  rw [call_of g_least_length]
  simp only [runF, startE, List.map, List.length, List.replicate, List.cons_append, List.nil_append, List.append_nil, Nat.reduceAdd, Nat.reduceSub, if_true, if_false, evSs, evS, evE, evEs, evW, evC, evI_of, tested, R.bind_ok, R.bind_exc, R.of_some, List.getElem?_cons_zero, List.getElem?_cons_succ, W.d, Bool.not_true, Bool.not_false, Bool.false_eq_true, Option.map_some, Option.bind_some, b_least_length, h]
theorem c_least_length_ok (n : Nat) {d : D} {w : W} {a b : Int} {e : D} {st : Store} (h : callN fns n i_check_small [d] st = .ok w st) (h2 : callN fns n i_least_by_length [d] st = .ok (.own [ti [a, b], e]) st) : ∃ u, callN fns (n + 1) i_least_length [d] st = .ok u st := by
  rw [call_of g_least_length]
  have i0 : idxD (.lst [ti [a, b], e]) (.int 0) = some (ti [a, b]) := rfl
  simp only [runF, startE, List.map, List.length, List.replicate, List.cons_append, List.nil_append, List.append_nil, Nat.reduceAdd, Nat.reduceSub, if_true, if_false, evSs, evS, evE, evEs, evW, evC, evI_of, tested, R.bind_ok, R.bind_exc, R.of_some, List.getElem?_cons_zero, List.getElem?_cons_succ, W.d, Bool.not_true, Bool.not_false, Bool.false_eq_true, Option.map_some, Option.bind_some, b_least_length, h, h2, i0, itD_ti]
  exact ⟨_, rfl⟩

theorem c_check_clash_ex (n : Nat) {d e : D} {c : Nat} {st : Store} (h : callN fns n i_check_small [d] st = .exc c st) : callN fns (n + 1) i_check_clash [d, e] st = .exc c st := by
  rw [call_of g_check_clash]
  simp only [runF, startE, List.map, List.length, List.replicate, List.cons_append, List.nil_append, List.append_nil, Nat.reduceAdd, Nat.reduceSub, if_true, if_false, evSs, evS, evE, evEs, evW, evC, evI_of, tested, R.bind_ok, R.bind_exc, R.of_some, List.getElem?_cons_zero, List.getElem?_cons_succ, W.d, Bool.not_true, Bool.not_false, Bool.false_eq_true, Option.map_some, Option.bind_some, b_check_clash, h]
theorem c_check_clash_nn (n : Nat) {xs : List Int} (L : Lot 200 xs) (hs : ∀ x ∈ xs, x ≤ 1000) {d : D} (hd : noUp 1 8 d = true) (st : Store) : callN fns (n + 6) i_check_clash [ti xs, d] st = .exc 13 st := by
  have e := c_check_small n L hs st
  have e2 := c_is_upto_no (n + 3) hd st
  rw [call_of g_check_clash]
  simp only [runF, startE, List.map, List.length, List.replicate, List.cons_append, List.nil_append, List.append_nil, Nat.reduceAdd, Nat.reduceSub, if_true, if_false, evSs, evS, evE, evEs, evW, evC, evI_of, tested, R.bind_ok, R.bind_exc, R.of_some, List.getElem?_cons_zero, List.getElem?_cons_succ, W.d, Bool.not_true, Bool.not_false, Bool.false_eq_true, Option.map_some, Option.bind_some, b_check_clash, e, e2]
theorem c_check_clash (n : Nat) {xs : List Int} (L : Lot 200 xs) (hs : ∀ x ∈ xs, x ≤ 1000) {k : Int} (h1 : 1 ≤ k) (h8 : k ≤ 8) (st : Store) : callN fns (n + 6) i_check_clash [ti xs, .int k] st = .ok (.fz .non) st := by
  have e := c_check_small n L hs st
  have e2 := c_is_upto (n + 3) k 1 8 st
  rw [show (decide (1 ≤ k) && decide (k ≤ 8)) = true by rw [decide_eq_true h1, decide_eq_true h8]; rfl] at e2
  rw [call_of g_check_clash]
  simp only [runF, startE, List.map, List.length, List.replicate, List.cons_append, List.nil_append, List.append_nil, Nat.reduceAdd, Nat.reduceSub, if_true, if_false, evSs, evS, evE, evEs, evW, evC, evI_of, tested, R.bind_ok, R.bind_exc, R.of_some, List.getElem?_cons_zero, List.getElem?_cons_succ, W.d, Bool.not_true, Bool.not_false, Bool.false_eq_true, Option.map_some, Option.bind_some, b_check_clash, e, e2]

theorem c_clash_a (n : Nat) (st : Store) : callN fns (n + 3) i_clash_of [ti [1000, 1], .int 8] st = .ok (.fz .non) st := by
  kernel_rfl
theorem c_clash_b (n : Nat) (st : Store) : callN fns (n + 3) i_clash_of [ti [0, 1000], .int 1] st = .ok (.fz (prD ([0, 0], [1, 0]))) st := by
  kernel_rfl

theorem c_has_none_ex (n : Nat) {d e : D} {c : Nat} {st : Store} (h : callN fns n i_check_clash [d, e] st = .exc c st) : callN fns (n + 1) i_has_none [d, e] st = .exc c st := by
  rw [call_of g_has_none]
  simp only [runF, startE, List.map, List.length, List.replicate, List.cons_append, List.nil_append, List.append_nil, Nat.reduceAdd, Nat.reduceSub, if_true, if_false, evSs, evS, evE, evEs, evW, evC, evI_of, tested, R.bind_ok, R.bind_exc, R.of_some, List.getElem?_cons_zero, List.getElem?_cons_succ, W.d, Bool.not_true, Bool.not_false, Bool.false_eq_true, Option.map_some, Option.bind_some, b_has_none, h]
theorem c_has_none_ok (n : Nat) {d e x : D} {w : W} {st : Store} (h : callN fns n i_check_clash [d, e] st = .ok w st) (h2 : callN fns n i_clash_of [d, e] st = .ok (.fz x) st) : ∃ u, callN fns (n + 1) i_has_none [d, e] st = .ok u st := by
  rw [call_of g_has_none]
  simp only [runF, startE, List.map, List.length, List.replicate, List.cons_append, List.nil_append, List.append_nil, Nat.reduceAdd, Nat.reduceSub, if_true, if_false, evSs, evS, evE, evEs, evW, evC, evI_of, tested, R.bind_ok, R.bind_exc, R.of_some, List.getElem?_cons_zero, List.getElem?_cons_succ, W.d, Bool.not_true, Bool.not_false, Bool.false_eq_true, Option.map_some, Option.bind_some, b_has_none, h, h2]
  cases x <;> exact ⟨_, rfl⟩

theorem c_is_clash_ex (n : Nat) {d e t : D} {c : Nat} {st : Store} (h : callN fns n i_check_clash [d, e] st = .exc c st) : callN fns (n + 1) i_is_clash [d, e, t] st = .exc c st := by
  rw [call_of g_is_clash]
  simp only [runF, startE, List.map, List.length, List.replicate, List.cons_append, List.nil_append, List.append_nil, Nat.reduceAdd, Nat.reduceSub, if_true, if_false, evSs, evS, evE, evEs, evW, evC, evI_of, tested, R.bind_ok, R.bind_exc, R.of_some, List.getElem?_cons_zero, List.getElem?_cons_succ, W.d, Bool.not_true, Bool.not_false, Bool.false_eq_true, Option.map_some, Option.bind_some, b_is_clash, h]
theorem c_is_clash_non (n : Nat) {d e : D} {w : W} {st : Store} (h : callN fns n i_check_clash [d, e] st = .ok w st) : callN fns (n + 1) i_is_clash [d, e, .non] st = .ok (.fz (.bool false)) st := by
  rw [call_of g_is_clash]
  simp only [runF, startE, List.map, List.length, List.replicate, List.cons_append, List.nil_append, List.append_nil, Nat.reduceAdd, Nat.reduceSub, if_true, if_false, evSs, evS, evE, evEs, evW, evC, evI_of, tested, R.bind_ok, R.bind_exc, R.of_some, List.getElem?_cons_zero, List.getElem?_cons_succ, W.d, Bool.not_true, Bool.not_false, Bool.false_eq_true, Option.map_some, Option.bind_some, b_is_clash, h, isTys, List.any, isTy, Bool.or_false]

theorem c_first_clash_ex (n : Nat) {d e : D} {c : Nat} {st : Store} (h : callN fns n i_check_clash [d, e] st = .exc c st) : callN fns (n + 1) i_first_clash [d, e] st = .exc c st := by
  rw [call_of g_first_clash]
  simp only [runF, startE, List.map, List.length, List.replicate, List.cons_append, List.nil_append, List.append_nil, Nat.reduceAdd, Nat.reduceSub, if_true, if_false, evSs, evS, evE, evEs, evW, evC, evI_of, tested, R.bind_ok, R.bind_exc, R.of_some, List.getElem?_cons_zero, List.getElem?_cons_succ, W.d, Bool.not_true, Bool.not_false, Bool.false_eq_true, Option.map_some, Option.bind_some, b_first_clash, h]
theorem c_first_clash_ok (n : Nat) {d e : D} {w u : W} {st : Store} (h : callN fns n i_check_clash [d, e] st = .ok w st) (h2 : callN fns n i_clash_of [d, e] st = .ok u st) : callN fns (n + 1) i_first_clash [d, e] st = .ok u st := by
  rw [call_of g_first_clash]
  simp only [runF, startE, List.map, List.length, List.replicate, List.cons_append, List.nil_append, List.append_nil, Nat.reduceAdd, Nat.reduceSub, if_true, if_false, evSs, evS, evE, evEs, evW, evC, evI_of, tested, R.bind_ok, R.bind_exc, R.of_some, List.getElem?_cons_zero, List.getElem?_cons_succ, W.d, Bool.not_true, Bool.not_false, Bool.false_eq_true, Option.map_some, Option.bind_some, b_first_clash, h, h2]

theorem c_l_cell_at (n : Nat) (ns : List Int) (k : Nat) (st : Store) : ∃ x, callN fns (n + 1) i_l_cell_at [.scr (ns.map .int), .int k] st = .ok (.fz (.int x)) st := by
  rw [call_of g_l_cell_at]
  by_cases h : k < ns.length
  · refine ⟨ns[k], ?_⟩
    simp [runF, b_l_cell_at, startE, evSs, evS, evE, evEs, tested, h, idxD, place]
  · refine ⟨0, ?_⟩
    simp [runF, b_l_cell_at, startE, evSs, evS, evE, evEs, tested, h]

theorem c_l_pot (n : Nat) (x : Int) (st : Store) : Ok (callN fns (n + 1) i_l_pot [.int x] st) fun w st' => w = .fz (.ref st.length) ∧ Pot st.length st' := by
  rw [call_of g_l_pot]
  have pw : powOk 10 18 = true := by decide
  by_cases h : x ≥ 10 ^ (18 : Int).toNat
  · refine ⟨.fz (.ref st.length), st ++ [.lst [.int (x - 10 ^ (18 : Int).toNat)]], ?_, rfl, x - 10 ^ (18 : Int).toNat, by simp⟩
    simp [runF, b_l_pot, startE, evSs, evS, evE, evEs, evW, tested, bin_pow pw, h, nolists, nolist, lim]
    simp at h
    simp [h]
  · have hr : rangeI 0 64 1 = some ((List.range 64).map fun (k : Nat) => .int (k : Int)) := by simp [rangeI, lim]
    have hl : ((List.range 64).map fun (k : Nat) => D.int (k : Int)).length = 64 := by simp
    have hr2 : ∀ d ∈ (List.range 64).map (fun (k : Nat) => D.int (k : Int)), ∃ k : Int, d = .int k ∧ 0 ≤ k ∧ k < 64 := by
      intro d hd
      obtain ⟨k, hk, rfl⟩ := List.mem_map.mp hd
      exact ⟨k, rfl, by omega, by have := List.mem_range.mp hk; omega⟩
    generalize (List.range 64).map (fun (k : Nat) => D.int (k : Int)) = ks at hr hr2 hl
    simp [runF, b_l_pot, startE, evSs, evS, evE, evEs, evI, evW, tested, bin_pow pw, bindT, hr]
    simp at h
    simp [show ¬ (1000000000000000000 ≤ x) by omega]
    refine ok_bind (ok_bind ((forGo_cnt (I := fun j env st' => st' = st ∧ ∃ (m : Int) (w2 w3 : W), env = [W.fz (.int x), .fz (.int m), w2, w3] ∧ 0 ≤ m ∧ m < 2 ^ (32 * j)) ks 0 [W.fz (D.int x), W.fz (D.int 0), W.no, W.no] st ⟨rfl, 0, _, _, rfl, by omega, by decide⟩ ?hh).mono ?_))
    case hh =>
      rintro d hd j env st' hj ⟨rfl, m, w2, w3, rfl, hm0, hm1⟩
      obtain ⟨k, rfl, hk0, hk1⟩ := hr2 d hd
      rw [hl] at hj
      refine ⟨_, rfl, ?_⟩
      obtain ⟨a0, a1⟩ := mod_bd x (m := 2147483629) (by decide)
      have m1 : mulOk 7919 k = true := mulOk_of 16 16 (by decide) (by omega)
      have m2 : mulOk (x.fmod 2147483629 + 7919 * k + 1) 48271 = true := mulOk_of 40 16 (by omega) (by decide)
      obtain ⟨b0, b1⟩ := mod_bd ((x.fmod 2147483629 + 7919 * k + 1) * 48271) (m := 2147483647) (by decide)
      generalize hy : ((x.fmod 2147483629 + 7919 * k + 1) * 48271).fmod 2147483647 = y at b0 b1
      have m3 : mulOk y y = true := mulOk_of 32 32 (by omega) (by omega)
      have m4 : mulOk 69621 k = true := mulOk_of 20 16 (by decide) (by omega)
      obtain ⟨c0, c1⟩ := mod_bd (y * y + 69621 * k + 7) (m := 2147483587) (by decide)
      have m5 : mulOk m 2147483587 = true := mulOk_of (32 * j) 32 (Int.ofNat_lt.mp (by rw [Int.natAbs_of_nonneg hm0]; simpa using hm1)) (by decide) (by omega)
      generalize hz : (y * y + 69621 * k + 7).fmod 2147483587 = z at c0 c1
      simp [bin_mod, bin_mul, m1, m2, hy, m3, m4, m5, hz]
      refine ⟨_, _, rfl, _, rfl, rfl, _, ⟨_, _, rfl⟩, by omega, ?_⟩
      have e : (2 : Int) ^ (32 * (j + 1)) = 2 ^ (32 * j) * 4294967296 := by
        rw [show 32 * (j + 1) = 32 * j + 32 by omega, Int.pow_add]; rfl
      rw [e]
      have : m * 2147483587 + 2147483587 ≤ 2 ^ (32 * j) * 2147483587 := by
        have := Int.mul_le_mul_of_nonneg_right (show m + 1 ≤ 2 ^ (32 * j) by omega) (show (0:Int) ≤ 2147483587 by decide)
        omega
      omega
    · rintro fl st' ⟨env2, rfl, rfl, m, w2, w3, rfl, hm0, hm1⟩
      simp [nolists, nolist, lim]
      exact ⟨_, _, rfl, _, _, rfl, rfl, m, by simp⟩

theorem c_l_take (n : Nat) {r : Nat} {st : Store} (hp : Pot r st) {far : Int} (h0 : 0 < far) (h1 : far < 2 ^ 8000) : Ok (callN fns (n + 1) i_l_take [.ref r, .int far] st) fun w st' => ∃ x : Int, w = .fz (.int x) ∧ 0 ≤ x ∧ x < far ∧ Pot r st' := by
  rw [call_of g_l_take]
  obtain ⟨p, hp⟩ := hp
  have d1 : divOk far = true := divOk_of 8000 (by omega) (by omega)
  have d2 : far ≠ 0 := by omega
  have hr : r < st.length := by
    rcases Nat.lt_or_ge r st.length with h | h
    · exact h
    · rw [List.getElem?_eq_none h] at hp; cases hp
  refine ⟨.fz (.int (p.fmod far)), st.set r (.lst [.int (p.fdiv far)]), ?_, _, rfl, Int.fmod_nonneg_of_pos _ h0, Int.fmod_lt_of_pos _ h0, p.fdiv far, by simp [hr]⟩
  simp [runF, b_l_take, startE, evSs, evS, evE, evEs, hp, idxD, place, bin_mod d2, bin_fdiv d1, bindT, setCell, nolist]

theorem nl_len {ds : List D} (h : ds.length < 2 ∨ 4 < ds.length) : ∀ xs, D.tup ds = ti xs → ¬ Lot 200 xs := by
  intro xs e L
  have e' : ds = xs.map .int := D.tup.inj e
  have := L.l2; have := L.l4
  rw [e', List.length_map] at h
  omega
theorem nl_mem {ds : List D} {d : D} (hm : d ∈ ds) (h : ∀ i : Int, d = .int i → i < 0) : ∀ xs, D.tup ds = ti xs → ¬ Lot 200 xs := by
  intro xs e L
  have e' : ds = xs.map .int := D.tup.inj e
  rw [e'] at hm
  obtain ⟨x, hx, rfl⟩ := List.mem_map.mp hm
  have := h x rfl
  have := L.nn x hx
  omega
theorem nl_zero {ds : List D} (h : ∀ d ∈ ds, d = .int 0) : ∀ xs, D.tup ds = ti xs → ¬ Lot 200 xs := by
  intro xs e L
  have e' : ds = xs.map .int := D.tup.inj e
  obtain ⟨x, hx, h0⟩ := L.ps
  have := h (.int x) (by rw [e']; exact List.mem_map.mpr ⟨x, hx, rfl⟩)
  cases this
  omega
theorem c_l_no_lot (n : Nat) {r : Nat} {st : Store} (hp : Pot r st) {xs : List Int} (h2 : 2 ≤ xs.length) (h4 : xs.length ≤ 4) (hB : Bv 200 xs) : Ok (callN fns (n + 2) i_l_no_lot [.ref r, ti xs] st) fun w st' => ∃ d, w = .fz d ∧ okD 2 d = true ∧ (∀ ys, d = ti ys → ¬ Lot 200 ys) ∧ Pot r st' := by
  refine ok_call g_l_no_lot rfl ?_
  unfold b_l_no_lot
  simp only [startE, List.map, List.length, List.replicate, List.cons_append, List.nil_append, Nat.reduceAdd, Nat.reduceSub]
  refine ok_seq ?_
  simp only [evS, evE, evEs, evW, evC, evI_of, evI_r1, tested, R.bind_ok, R.bind_exc, R.of_some, List.getElem?_cons_zero, List.getElem?_cons_succ, W.d, bindT, bindTs, Option.map_some, Option.bind_some, List.set, List.length, lim, Nat.reduceAdd, Nat.reduceLT, Nat.reduceLeDiff, Nat.zero_le, if_true, if_false, Bool.not_true, Bool.not_false, Bool.false_eq_true, ok_ok_iff, ti_len, ok_bind_iff]
  refine (c_l_take n hp (far := xs.length) (by omega) (by omega)).mono ?_
  rintro _ st1 ⟨x, rfl, x0, x1, hp1⟩
  simp only [evS, evE, evEs, evW, evC, evI_of, evI_r1, tested, R.bind_ok, R.bind_exc, R.of_some, List.getElem?_cons_zero, List.getElem?_cons_succ, W.d, bindT, bindTs, Option.map_some, Option.bind_some, List.set, List.length, lim, Nat.reduceAdd, Nat.reduceLT, Nat.reduceLeDiff, Nat.zero_le, if_true, if_false, Bool.not_true, Bool.not_false, Bool.false_eq_true, ok_ok_iff, aft_next]
  refine ok_seq ?_
  simp only [evS, evE, evEs, evW, evC, evI_of, evI_r1, tested, R.bind_ok, R.bind_exc, R.of_some, List.getElem?_cons_zero, List.getElem?_cons_succ, W.d, bindT, bindTs, Option.map_some, Option.bind_some, List.set, List.length, lim, Nat.reduceAdd, Nat.reduceLT, Nat.reduceLeDiff, Nat.zero_le, if_true, if_false, Bool.not_true, Bool.not_false, Bool.false_eq_true, ok_ok_iff, ok_bind_iff]
  refine (c_l_take n hp1 (far := 7) (by decide) (by decide)).mono ?_
  rintro _ st2 ⟨y, rfl, y0, y1, hp2⟩
  generalize hL : ([_, _, _, _, _, _, _] : List D) = ds1
  obtain ⟨odd, eo, hom⟩ := idx_some (ds := ds1) y0 (by rw [← hL]; exact y1)
  have ho : okD 1 odd = true ∧ ∀ i : Int, odd = .int i → i < 0 := by
    rw [← hL] at hom
    simp only [List.mem_cons, List.not_mem_nil, or_false] at hom
    rcases hom with rfl | rfl | rfl | rfl | rfl | rfl | rfl
    · exact ⟨by decide, fun i e => by cases e; decide⟩
    all_goals exact ⟨by decide, fun i e => by cases e⟩
  simp only [evS, evE, evEs, evW, evC, evI_of, evI_r1, tested, R.bind_ok, R.bind_exc, R.of_some, List.getElem?_cons_zero, List.getElem?_cons_succ, W.d, bindT, bindTs, Option.map_some, Option.bind_some, List.set, List.length, lim, Nat.reduceAdd, Nat.reduceLT, Nat.reduceLeDiff, Nat.zero_le, if_true, if_false, Bool.not_true, Bool.not_false, Bool.false_eq_true, ok_ok_iff, eo, aft_next]
  have lm : (xs.map D.int).length = xs.length := List.length_map ..
  have s1 : sliceD (ti xs) none (some x) = some (.tup ((xs.map .int).take x.toNat)) := slT_tup x0 (by omega)
  have s2 : sliceD (ti xs) (some (x + 1)) none = some (.tup ((xs.map .int).drop (x + 1).toNat)) := slF_tup (by omega)
  have s3 : sliceD (ti xs) none (some 1) = some (.tup ((xs.map .int).take 1)) := slT_tup (by decide) (by omega)
  have rz := rep_tup (d := .int 0) (k := (xs.length : Int)) (by omega) (by omega)
  have el : bi1 .list (ti xs) = some (.lst (xs.map .int)) := rfl
  refine ok_seq ?_
  simp only [evS, evE, evEs, evW, evC, evI_of, evI_r1, tested, R.bind_ok, R.bind_exc, R.of_some, List.getElem?_cons_zero, List.getElem?_cons_succ, W.d, bindT, bindTs, Option.map_some, Option.bind_some, List.set, List.length, lim, Nat.reduceAdd, Nat.reduceLT, Nat.reduceLeDiff, Nat.zero_le, if_true, if_false, Bool.not_true, Bool.not_false, Bool.false_eq_true, ok_ok_iff, s1, s2, s3, bin_add, ti_len, rz, el]
  rw [add_tup (by simp only [List.length_take, List.length_cons, List.length_nil]; omega)]
  simp only [R.of_some, R.bind_ok]
  rw [add_tup (by simp only [List.length_append, List.length_take, List.length_drop, List.length_cons, List.length_nil]; omega)]
  simp only [R.of_some, R.bind_ok]
  have a1 : binop .add (ti xs) (ti xs) = some (.tup (xs.map .int ++ xs.map .int)) := add_tup (by omega)
  simp only [a1, R.of_some, R.bind_ok]
  have a2 : binop .add (.tup (xs.map D.int ++ xs.map .int)) (ti xs) = some (.tup (xs.map .int ++ xs.map .int ++ xs.map .int)) := add_tup (by simp only [List.length_append]; omega)
  simp only [a2, R.of_some, R.bind_ok]
  rw [slT_tup (k := 5) (by decide) (by simp only [List.length_append]; omega)]
  simp only [evS, evE, evEs, evW, evC, evI_of, evI_r1, tested, R.bind_ok, R.bind_exc, R.of_some, List.getElem?_cons_zero, List.getElem?_cons_succ, W.d, bindT, bindTs, Option.map_some, Option.bind_some, List.set, List.length, lim, Nat.reduceAdd, Nat.reduceLT, Nat.reduceLeDiff, Nat.zero_le, if_true, if_false, Bool.not_true, Bool.not_false, Bool.false_eq_true, ok_ok_iff, aft_next]
  refine ok_seq ?_
  simp only [evS, evE, evEs, evW, evC, evI_of, evI_r1, tested, R.bind_ok, R.bind_exc, R.of_some, List.getElem?_cons_zero, List.getElem?_cons_succ, W.d, bindT, bindTs, Option.map_some, Option.bind_some, List.set, List.length, lim, Nat.reduceAdd, Nat.reduceLT, Nat.reduceLeDiff, Nat.zero_le, if_true, if_false, Bool.not_true, Bool.not_false, Bool.false_eq_true, ok_ok_iff]
  rw [add_lst (by simp)]
  simp only [evS, evE, evEs, evW, evC, evI_of, evI_r1, tested, R.bind_ok, R.bind_exc, R.of_some, List.getElem?_cons_zero, List.getElem?_cons_succ, W.d, bindT, bindTs, Option.map_some, Option.bind_some, List.set, List.length, lim, Nat.reduceAdd, Nat.reduceLT, Nat.reduceLeDiff, Nat.zero_le, if_true, if_false, Bool.not_true, Bool.not_false, Bool.false_eq_true, ok_ok_iff, ok_bind_iff, List.cons_append, List.nil_append]
  refine (c_l_take n hp2 (far := 11) (by decide) (by decide)).mono ?_
  rintro _ st3 ⟨w, rfl, w0, w1, hp3⟩
  generalize hL2 : ([_, _, _, _, _, _, _, _, _, _, _] : List D) = ds2
  obtain ⟨d, ed, hdm⟩ := idx_some (ds := ds2) w0 (by rw [← hL2]; exact w1)
  simp only [evS, evE, evEs, evW, evC, evI_of, evI_r1, tested, R.bind_ok, R.bind_exc, R.of_some, List.getElem?_cons_zero, List.getElem?_cons_succ, W.d, bindT, bindTs, Option.map_some, Option.bind_some, List.set, List.length, lim, Nat.reduceAdd, Nat.reduceLT, Nat.reduceLeDiff, Nat.zero_le, if_true, if_false, Bool.not_true, Bool.not_false, Bool.false_eq_true, ok_ok_iff, ed, aft_ret, outQ_ret]
  suffices H : okD 2 d = true ∧ ∀ ys, d = ti ys → ¬ Lot 200 ys from ⟨d, rfl, H.1, H.2, hp3⟩
  have oi : ∀ e ∈ xs.map D.int, okD 1 e = true := fun e he => by
    obtain ⟨q, hq, rfl⟩ := List.mem_map.mp he
    exact int_okD (hB q hq)
  rw [← hL2] at hdm
  simp only [List.mem_cons, List.not_mem_nil, or_false] at hdm
  rcases hdm with rfl | rfl | rfl | rfl | rfl | rfl | rfl | rfl | rfl | rfl | rfl
  · refine ⟨tup_okD (by simp only [List.length_append, List.length_take, List.length_drop, List.length_cons, List.length_nil]; omega) fun e he => ?_, nl_mem (d := odd) (by simp) ho.2⟩
    rcases List.mem_append.mp he with he | he
    · rcases List.mem_append.mp he with he | he
      · exact oi e (List.mem_of_mem_take he)
      · rw [List.mem_singleton] at he; subst he; exact ho.1
    · exact oi e (List.mem_of_mem_drop he)
  · exact ⟨tup_okD (by rw [List.length_replicate]; omega) fun e he => by rw [(List.mem_replicate.mp he).2]; decide, nl_zero fun e he => (List.mem_replicate.mp he).2⟩
  · exact ⟨rfl, fun ys e => by cases e⟩
  · refine ⟨tup_okD (by rw [List.length_take]; omega) fun e he => ?_, nl_len (.inr ?_)⟩
    · have := List.mem_of_mem_take he
      simp only [List.mem_append, or_self] at this
      exact oi e this
    · rw [List.length_take]
      simp only [List.length_append, List.length_map]
      omega
  · exact ⟨tup_okD (by rw [List.length_take]; omega) fun e he => oi e (List.mem_of_mem_take he), nl_len (.inl (by rw [List.length_take]; omega))⟩
  · exact ⟨by decide, nl_len (.inl (by decide))⟩
  · exact ⟨by decide, fun ys e => by cases e⟩
  · exact ⟨by decide, fun ys e => by cases e⟩
  · exact ⟨by decide, fun ys e => by cases e⟩
  · exact ⟨by decide, fun ys e => by cases e⟩
  · exact ⟨tup_okD (by simp) fun e he => by rw [List.mem_singleton] at he; subst he; exact ti_okD (by omega) hB, nl_len (.inl (by simp))⟩

theorem c_l_small_lot (n : Nat) {r : Nat} {st : Store} (hp : Pot r st) {size : Int} (s2 : 2 ≤ size) (s4 : size ≤ 4) : Ok (callN fns (n + 2) i_l_small_lot [.ref r, .int size] st) fun w st' => ∃ xs : List Int, w = .fz (ti xs) ∧ (xs.length : Int) = size ∧ (∀ x ∈ xs, 0 ≤ x ∧ x ≤ 1000) ∧ (∃ x ∈ xs, 0 < x) ∧ Pot r st' := by
  refine ok_call g_l_small_lot rfl ?_
  unfold b_l_small_lot
  simp only [startE, List.map, List.length, List.replicate, List.cons_append, List.nil_append, Nat.reduceAdd, Nat.reduceSub]
  refine ok_seq ?_
  simp only [evS, evE, evEs, evW, evC, evI_of, evI_r1, tested, R.bind_ok, R.bind_exc, R.of_some, List.getElem?_cons_zero, List.getElem?_cons_succ, W.d, bindT, bindTs, Option.map_some, Option.bind_some, List.set, List.length, lim, Nat.reduceAdd, Nat.reduceLT, Nat.reduceLeDiff, Nat.zero_le, if_true, if_false, Bool.not_true, Bool.not_false, Bool.false_eq_true, ok_ok_iff, ok_bind_iff]
  refine (c_l_take n hp (far := 3) (by decide) (by decide)).mono ?_
  rintro _ st1 ⟨k, rfl, k0, k1, hp1⟩
  obtain ⟨f, ef, f0, f1⟩ : ∃ f : Int, idxD (.lst [.int 10, .int 61, .int 1001]) (.int k) = some (.int f) ∧ 10 ≤ f ∧ f ≤ 1001 := by
    rcases (show k = 0 ∨ k = 1 ∨ k = 2 by omega) with rfl | rfl | rfl
    · exact ⟨10, rfl, by decide, by decide⟩
    · exact ⟨61, rfl, by decide, by decide⟩
    · exact ⟨1001, rfl, by decide, by decide⟩
  simp only [evS, evE, evEs, evW, evC, evI_of, evI_r1, tested, R.bind_ok, R.bind_exc, R.of_some, List.getElem?_cons_zero, List.getElem?_cons_succ, W.d, bindT, bindTs, Option.map_some, Option.bind_some, List.set, List.length, lim, Nat.reduceAdd, Nat.reduceLT, Nat.reduceLeDiff, Nat.zero_le, if_true, if_false, Bool.not_true, Bool.not_false, Bool.false_eq_true, ok_ok_iff, ef, aft_next]
  refine ok_seq ?_
  obtain ⟨ks, ek, hk, _⟩ := range_len (j := size) (by omega) (by omega)
  simp only [evS, evE, evEs, evW, evC, evI_of, evI_r1, tested, R.bind_ok, R.bind_exc, R.of_some, List.getElem?_cons_zero, List.getElem?_cons_succ, W.d, bindT, bindTs, Option.map_some, Option.bind_some, List.set, List.length, lim, Nat.reduceAdd, Nat.reduceLT, Nat.reduceLeDiff, Nat.zero_le, if_true, if_false, Bool.not_true, Bool.not_false, Bool.false_eq_true, ok_ok_iff, ek, wipe, ok_bind_iff, lined]
  refine (compGo_inv (I := Pot r) (G := fun d => ∃ x : Int, d = .int x ∧ 0 ≤ x ∧ x < f) ks st1 hp1 ?_).mono ?_
  · intro d hd st hp
    refine ⟨_, rfl, rfl, ?_⟩
    simp only [evS, evE, evEs, evW, evC, evI_of, evI_r1, tested, R.bind_ok, R.bind_exc, R.of_some, List.getElem?_cons_zero, List.getElem?_cons_succ, W.d, bindT, bindTs, Option.map_some, Option.bind_some, List.set, List.length, lim, Nat.reduceAdd, Nat.reduceLT, Nat.reduceLeDiff, Nat.zero_le, if_true, if_false, Bool.not_true, Bool.not_false, Bool.false_eq_true, ok_ok_iff, ok_bind_iff]
    refine (c_l_take n hp (far := f) (by omega) (far_small (by omega))).mono ?_
    rintro _ st2 ⟨x, rfl, x0, x1, hp2⟩
    exact ⟨⟨x, rfl, x0, x1⟩, hp2⟩
  rintro ds st2 ⟨hl, hd, hp2⟩
  obtain ⟨xs, rfl, hx⟩ := ints_of hd
  rw [List.length_map] at hl
  have hls : (xs.length : Int) = size := by omega
  have hx' : ∀ x ∈ xs, 0 ≤ x ∧ x < f := hx
  simp only [List.length_map, if_pos (show xs.length ≤ 1000000 by omega), ok_ok_iff, newW, R.of_some, aft_next]
  refine ok_seq ?_
  have sz : size < 2 ^ 8000 := far_small (by omega)
  simp only [evS, evE, evEs, evW, evC, evI_of, evI_r1, tested, R.bind_ok, R.bind_exc, R.of_some, List.getElem?_cons_zero, List.getElem?_cons_succ, W.d, bindT, bindTs, Option.map_some, Option.bind_some, List.set, List.length, lim, Nat.reduceAdd, Nat.reduceLT, Nat.reduceLeDiff, Nat.zero_le, if_true, if_false, Bool.not_true, Bool.not_false, Bool.false_eq_true, ok_ok_iff, ok_bind_iff]
  refine (c_l_take n hp2 (far := size) (by omega) sz).mono ?_
  rintro _ st3 ⟨at_, rfl, at0, at1, hp3⟩
  refine (c_l_take n hp3 (far := size) (by omega) sz).mono ?_
  rintro _ st4 ⟨to, rfl, to0, to1, hp4⟩
  simp only [evS, evE, evEs, evW, evC, evI_of, evI_r1, tested, R.bind_ok, R.bind_exc, R.of_some, List.getElem?_cons_zero, List.getElem?_cons_succ, W.d, bindT, bindTs, Option.map_some, Option.bind_some, List.set, List.length, lim, Nat.reduceAdd, Nat.reduceLT, Nat.reduceLeDiff, Nat.zero_le, if_true, if_false, Bool.not_true, Bool.not_false, Bool.false_eq_true, ok_ok_iff, and_self]
  rw [aft_next]
  refine ok_seq ?_
  simp only [evS, evE, evEs, evW, evC, evI_of, evI_r1, tested, R.bind_ok, R.bind_exc, R.of_some, List.getElem?_cons_zero, List.getElem?_cons_succ, W.d, bindT, bindTs, Option.map_some, Option.bind_some, List.set, List.length, lim, Nat.reduceAdd, Nat.reduceLT, Nat.reduceLeDiff, Nat.zero_le, if_true, if_false, Bool.not_true, Bool.not_false, Bool.false_eq_true, ok_ok_iff, ok_bind_iff]
  refine (c_l_take n hp4 (far := 5) (by decide) (by decide)).mono ?_
  rintro _ st5 ⟨way, rfl, _, _, hp5⟩
  simp only [evS, evE, evEs, evW, evC, evI_of, evI_r1, tested, R.bind_ok, R.bind_exc, R.of_some, List.getElem?_cons_zero, List.getElem?_cons_succ, W.d, bindT, bindTs, Option.map_some, Option.bind_some, List.set, List.length, lim, Nat.reduceAdd, Nat.reduceLT, Nat.reduceLeDiff, Nat.zero_le, if_true, if_false, Bool.not_true, Bool.not_false, Bool.false_eq_true, ok_ok_iff]
  rw [aft_next]
  refine ok_seq (Ok.mono (Q := fun fl st' => ∃ xs : List Int, fl = .next [.fz (.ref r), .fz (.int size), .fz (.int f), .own (xs.map .int), .no, .fz (.int at_), .fz (.int to), .fz (.int way)] ∧ (xs.length : Int) = size ∧ (∀ x ∈ xs, 0 ≤ x ∧ x < f) ∧ Pot r st') ?_ ?_)
  · simp only [evS, evE, evEs, evW, evC, evI_of, evI_r1, tested, R.bind_ok, R.bind_exc, R.of_some, List.getElem?_cons_zero, List.getElem?_cons_succ, W.d, bindT, bindTs, Option.map_some, Option.bind_some, List.set, List.length, lim, Nat.reduceAdd, Nat.reduceLT, Nat.reduceLeDiff, Nat.zero_le, if_true, if_false, Bool.not_true, Bool.not_false, Bool.false_eq_true, ok_ok_iff, cmp_eqI, evSs]
    split
    · simp only [List.length_map, place_in at0 (show at_ < (xs.length : Int) by omega), R.bind_ok, List.set, set_ints, ok_ok_iff]
      exact ⟨_, rfl, by simpa using hls, set_all hx' ⟨by omega, by omega⟩, hp5⟩
    · simp only [ok_ok_iff]
      exact ⟨_, rfl, hls, hx', hp5⟩
  rintro _ st6 ⟨xs, rfl, hls, hx, hp6⟩
  rw [aft_next]
  refine ok_seq (Ok.mono (Q := fun fl st' => ∃ xs : List Int, fl = .next [.fz (.ref r), .fz (.int size), .fz (.int f), .own (xs.map .int), .no, .fz (.int at_), .fz (.int to), .fz (.int way)] ∧ (xs.length : Int) = size ∧ (∀ x ∈ xs, 0 ≤ x ∧ x < f) ∧ Pot r st') ?_ ?_)
  · simp only [evS, evE, evEs, evW, evC, evI_of, evI_r1, tested, R.bind_ok, R.bind_exc, R.of_some, List.getElem?_cons_zero, List.getElem?_cons_succ, W.d, bindT, bindTs, Option.map_some, Option.bind_some, List.set, List.length, lim, Nat.reduceAdd, Nat.reduceLT, Nat.reduceLeDiff, Nat.zero_le, if_true, if_false, Bool.not_true, Bool.not_false, Bool.false_eq_true, ok_ok_iff, cmp_eqI, evSs]
    split
    · have ht : to.toNat < xs.length := by omega
      have ei : idxD (.lst (xs.map .int)) (.int to) = some (.int xs[to.toNat]) := by
        simp only [idxD, List.length_map, place_in to0 (show to < (xs.length : Int) by omega), Option.bind_some, List.getElem?_map, List.getElem?_eq_getElem ht, Option.map_some]
      simp only [ei, R.of_some, R.bind_ok, List.length_map, place_in at0 (show at_ < (xs.length : Int) by omega), List.set, set_ints, ok_ok_iff]
      exact ⟨_, rfl, by simpa using hls, set_all hx (hx _ (List.getElem_mem ht)), hp6⟩
    · simp only [ok_ok_iff]
      exact ⟨_, rfl, hls, hx, hp6⟩
  rintro _ st7 ⟨xs, rfl, hls, hx, hp7⟩
  rw [aft_next]
  refine ok_seq (Ok.mono (Q := fun fl st' => ∃ xs : List Int, fl = .next [.fz (.ref r), .fz (.int size), .fz (.int f), .own (xs.map .int), .no, .fz (.int at_), .fz (.int to), .fz (.int way)] ∧ (xs.length : Int) = size ∧ (∀ x ∈ xs, 0 ≤ x ∧ x < f) ∧ (∃ x ∈ xs, 0 < x) ∧ Pot r st') ?_ ?_)
  · obtain ⟨m, em, hm, hle⟩ := maxI_ok (xs := xs) (by intro z; rw [z] at hls; simp at hls; omega)
    simp only [evS, evE, evEs, evW, evC, evI_of, evI_r1, tested, R.bind_ok, R.bind_exc, R.of_some, List.getElem?_cons_zero, List.getElem?_cons_succ, W.d, bindT, bindTs, Option.map_some, Option.bind_some, List.set, List.length, lim, Nat.reduceAdd, Nat.reduceLT, Nat.reduceLeDiff, Nat.zero_le, if_true, if_false, Bool.not_true, Bool.not_false, Bool.false_eq_true, ok_ok_iff, cmp_eqI, evSs, max1_lst, em, bin_sub]
    split
    · simp only [ok_bind_iff]
      refine (c_l_take n hp7 (far := f - 1) (by omega) (far_small (by omega))).mono ?_
      rintro _ st8 ⟨x, rfl, x0, x1, hp8⟩
      simp only [W.d, bin_add, R.of_some, ok_ok_iff, R.bind_ok, List.length_map, place_in to0 (show to < (xs.length : Int) by omega), List.set, set_ints]
      have hto : to.toNat < xs.length := by omega
      refine ⟨_, rfl, by simpa using hls, set_all hx ⟨by omega, by omega⟩, ⟨1 + x, ?_, by omega⟩, hp8⟩
      exact List.mem_of_getElem? (i := to.toNat) (List.getElem?_set_self hto)
    · rename_i hne
      simp only [ok_ok_iff]
      refine ⟨_, rfl, hls, hx, ⟨m, hm, ?_⟩, hp7⟩
      have := (hx m hm).1
      have hm0 : ¬ m = 0 := fun e => hne (by rw [e]; rfl)
      omega
  rintro _ st8 ⟨xs, rfl, hls, hx, hps, hp8⟩
  rw [aft_next]
  refine ok_seq ?_
  simp only [evS, evE, evEs, evW, evC, evI_of, evI_r1, tested, R.bind_ok, R.bind_exc, R.of_some, List.getElem?_cons_zero, List.getElem?_cons_succ, W.d, bindT, bindTs, Option.map_some, Option.bind_some, List.set, List.length, lim, Nat.reduceAdd, Nat.reduceLT, Nat.reduceLeDiff, Nat.zero_le, if_true, if_false, Bool.not_true, Bool.not_false, Bool.false_eq_true, ok_ok_iff, ti_tup, aft_ret, outQ_ret]
  exact ⟨_, rfl, hls, fun x h => ⟨(hx x h).1, by have := (hx x h).2; omega⟩, hps, hp8⟩

def told44 : DD.R W → DD.R W
  | .exc c st => (match wordOf kinW c with
    | some w => .ok (.fz (.str w)) st
    | none => .bad)
  | .ok _ st => .ok (.fz (.str (PySem.Str.ofString "told"))) st
  | .bad => .bad
theorem told_lo (n : Nat) {i f : Nat} {d e : D} {st : Store} {r : DD.R W} (hi : (place 4 (i : Int)).bind (fun x => [15, 16, 17, 18][x]?) = some f) (hl : decide ((i : Int) < 4) = true) (h : callN fns n f [d] st = r) : callN fns (n + 1) i_l_told [.int i, d, e] st = told44 r := by
  rw [call_of g_l_told]
  simp only [runF, startE, List.map, List.length, List.replicate, List.cons_append, List.nil_append, List.append_nil, Nat.reduceAdd, Nat.reduceSub, if_true, if_false, evSs, evS, evE, evEs, evW, evC, evI_of, tested, R.bind_ok, R.bind_exc, R.of_some, List.getElem?_cons_zero, List.getElem?_cons_succ, W.d, Bool.not_true, Bool.not_false, Bool.false_eq_true, Option.map_some, Option.bind_some, b_l_told, cmp_lt, hl, List.length_cons, List.length_nil, hi, h]
  cases r with
  | ok a st' => rfl
  | exc c st' =>
    simp only [R.bind_exc, told44]
    cases wordOf kinW c <;> rfl
  | bad => rfl
theorem told_mid (n : Nat) {d e : D} {st : Store} {r : DD.R W} (h : callN fns n i_is_clash [d, e, .non] st = r) : callN fns (n + 1) i_l_told [.int 4, d, e] st = told44 r := by
  rw [call_of g_l_told]
  simp only [runF, startE, List.map, List.length, List.replicate, List.cons_append, List.nil_append, List.append_nil, Nat.reduceAdd, Nat.reduceSub, if_true, if_false, evSs, evS, evE, evEs, evW, evC, evI_of, tested, R.bind_ok, R.bind_exc, R.of_some, List.getElem?_cons_zero, List.getElem?_cons_succ, W.d, Bool.not_true, Bool.not_false, Bool.false_eq_true, Option.map_some, Option.bind_some, b_l_told, cmp_lt, cmp_eqI, show decide ((4 : Int) < 4) = false from rfl, show ((4 : Int) == 4) = true from rfl, h]
  cases r with
  | ok a st' => rfl
  | exc c st' =>
    simp only [R.bind_exc, told44]
    cases wordOf kinW c <;> rfl
  | bad => rfl
theorem told_hi (n : Nat) {i f : Nat} {d e : D} {st : Store} {r : DD.R W} (hi : (place 2 ((i : Int) - 5)).bind (fun x => [21, 24][x]?) = some f) (hl : decide ((i : Int) < 4) = false) (hm : ((i : Int) == 4) = false) (h : callN fns n f [d, e] st = r) : callN fns (n + 1) i_l_told [.int i, d, e] st = told44 r := by
  rw [call_of g_l_told]
  simp only [runF, startE, List.map, List.length, List.replicate, List.cons_append, List.nil_append, List.append_nil, Nat.reduceAdd, Nat.reduceSub, if_true, if_false, evSs, evS, evE, evEs, evW, evC, evI_of, tested, R.bind_ok, R.bind_exc, R.of_some, List.getElem?_cons_zero, List.getElem?_cons_succ, W.d, Bool.not_true, Bool.not_false, Bool.false_eq_true, Option.map_some, Option.bind_some, b_l_told, cmp_lt, cmp_eqI, hl, hm, bin_sub, List.length_cons, List.length_nil, hi, h]
  cases r with
  | ok a st' => rfl
  | exc c st' =>
    simp only [R.bind_exc, told44]
    cases wordOf kinW c <;> rfl
  | bad => rfl
theorem told_cl (n : Nat) {d e : D} {st : Store} {c : Nat} {w : PySem.Str} (hw : wordOf kinW c = some w) (h : ∀ n, callN fns (n + 6) i_check_clash [d, e] st = .exc c st) : ∀ i : Nat, 4 ≤ i → i < 7 → callN fns (n + 8) i_l_told [.int (i : Int), d, e] st = .ok (.fz (.str w)) st := by
  have r4 := told_mid (n + 7) (c_is_clash_ex (n + 6) (t := .non) (h n))
  have r5 := told_hi (n + 7) (i := 5) rfl rfl rfl (c_has_none_ex (n + 6) (h n))
  have r6 := told_hi (n + 7) (i := 6) rfl rfl rfl (c_first_clash_ex (n + 6) (h n))
  simp only [told44, hw] at r4 r5 r6
  intro i h4 h7
  rcases (show i = 4 ∨ i = 5 ∨ i = 6 by omega) with rfl | rfl | rfl
  · exact r4
  · exact r5
  · exact r6
theorem told_ex (n : Nat) {d e : D} {st : Store} {c : Nat} {w : PySem.Str} (hw : wordOf kinW c = some w) (h : ∀ n, callN fns (n + 5) i_check_small [d] st = .exc c st) : ∀ i : Nat, i < 7 → callN fns (n + 8) i_l_told [.int (i : Int), d, e] st = .ok (.fz (.str w)) st := by
  have r0 := told_lo (n + 7) (e := e) (i := 0) rfl rfl (c_by_weight_ex (n + 6) (h (n + 1)))
  have r1 := told_lo (n + 7) (e := e) (i := 1) rfl rfl (c_by_length_ex (n + 6) (h (n + 1)))
  have r2 := told_lo (n + 7) (e := e) (i := 2) rfl rfl (c_least_weight_ex (n + 6) (h (n + 1)))
  have r3 := told_lo (n + 7) (e := e) (i := 3) rfl rfl (c_least_length_ex (n + 6) (h (n + 1)))
  simp only [told44, hw] at r0 r1 r2 r3
  intro i hi
  rcases (show i = 0 ∨ i = 1 ∨ i = 2 ∨ i = 3 ∨ (4 ≤ i ∧ i < 7) by omega) with rfl | rfl | rfl | rfl | ⟨h4, h7⟩
  · exact r0
  · exact r1
  · exact r2
  · exact r3
  · exact told_cl n hw (fun n => c_check_clash_ex (n + 5) (h n)) i h4 h7
/-- right ones at the bounds -/
theorem told_ok (n : Nat) {a b : Int} {x y z v k : Int} {p : D} {st : Store} (L : Lot 200 [a, b]) (hs : ∀ x ∈ [a, b], x ≤ 1000) (h2 : ∀ n, callN fns (n + 2) i_of_two [ti [a, b]] st = .ok (.own [ti [x, y], ti [z, v]]) st) (h3 : ∀ n, callN fns (n + 3) i_clash_of [ti [a, b], .int k] st = .ok (.fz p) st) (k1 : 1 ≤ k) (k8 : k ≤ 8) :
    ∀ i : Nat, i < 7 → callN fns (n + 8) i_l_told [.int (i : Int), ti [a, b], .int k] st = .ok (.fz (.str (PySem.Str.ofString "told"))) st := by
  have e1 := c_check_small (n + 1) L hs st
  have e2 := c_check_clash n L hs k1 k8 st
  have w1 := c_least_by_weight_2 (n + 5) (h2 (n + 3))
  have w2 := c_least_by_length_2 (n + 5) (h2 (n + 3))
  have r0 := told_lo (n + 7) (e := .int k) (i := 0) rfl rfl (c_by_weight_ok (n + 6) e1 w1)
  have r1 := told_lo (n + 7) (e := .int k) (i := 1) rfl rfl (c_by_length_ok (n + 6) e1 w2)
  obtain ⟨u2, q2⟩ := c_least_weight_ok (n + 6) e1 w1
  obtain ⟨u3, q3⟩ := c_least_length_ok (n + 6) e1 w2
  have r2 := told_lo (n + 7) (e := .int k) (i := 2) rfl rfl q2
  have r3 := told_lo (n + 7) (e := .int k) (i := 3) rfl rfl q3
  have r4 := told_mid (n + 7) (c_is_clash_non (n + 6) e2)
  obtain ⟨u5, q5⟩ := c_has_none_ok (n + 6) e2 (h3 (n + 3))
  have r5 := told_hi (n + 7) (i := 5) rfl rfl rfl q5
  have r6 := told_hi (n + 7) (i := 6) rfl rfl rfl (c_first_clash_ok (n + 6) e2 (h3 (n + 3)))
  intro i hi
  rcases (show i = 0 ∨ i = 1 ∨ i = 2 ∨ i = 3 ∨ i = 4 ∨ i = 5 ∨ i = 6 by omega) with rfl | rfl | rfl | rfl | rfl | rfl | rfl
  · exact r0
  · exact r1
  · exact r2
  · exact r3
  · exact r4
  · exact r5
  · exact r6

end L53


set_option Elab.async false
set_option linter.all false
set_option maxRecDepth 100000
set_option maxHeartbeats 1000000
namespace L53
open PySem DD DDS
theorem great_eq {xs : List Int} (h4 : xs.length ≤ 4) {j g : Int} (j0 : 0 ≤ j) : (binop .add (.tup ((xs.map D.int).take j.toNat)) (.tup [.int g])) = some (.tup ((xs.map D.int).take j.toNat ++ [.int g])) ∧ binop .add (.tup ((xs.map D.int).take j.toNat ++ [.int g])) (.tup ((xs.map D.int).drop (j + 1).toNat)) = some (ti (xs.take j.toNat ++ [g] ++ xs.drop (j + 1).toNat)) := by
  refine ⟨add_tup (by simp; omega), ?_⟩
  rw [add_tup (by simp; omega)]
  simp only [ti, List.map_append, List.map_take, List.map_drop, List.map_cons, List.map_nil]
theorem great_lot {xs : List Int} (L : Lot 200 xs) {j g : Int} (j0 : 0 ≤ j) (j1 : j < (xs.length : Int)) (g0 : 0 < g) (gb : g < 2 ^ 200) : Lot 200 (xs.take j.toNat ++ [g] ++ xs.drop (j + 1).toNat) := by
  have h2 := L.l2; have h4 := L.l4
  have hm : ∀ x ∈ xs.take j.toNat ++ [g] ++ xs.drop (j + 1).toNat, x = g ∨ x ∈ xs := fun x hx => by
    rcases List.mem_append.mp hx with hx | hx
    · rcases List.mem_append.mp hx with hx | hx
      · exact .inr (List.mem_of_mem_take hx)
      · exact .inl (List.mem_singleton.mp hx)
    · exact .inr (List.mem_of_mem_drop hx)
  have hl : (xs.take j.toNat ++ [g] ++ xs.drop (j + 1).toNat).length = xs.length := by
    simp only [List.length_append, List.length_take, List.length_drop, List.length_cons, List.length_nil]; omega
  refine ⟨by omega, by omega, fun x hx => ?_, ⟨g, by simp, g0⟩, fun x hx => ?_⟩
  · rcases hm x hx with rfl | h
    · omega
    · exact L.nn x h
  · rcases hm x hx with rfl | h
    · exact gb
    · exact L.sm x h
abbrev bodyL : List S := [(.asg (.nm 2) (.call 26 [(.call 25 [(.var 0), (.var 1)])])), (.asg (.nm 3) (.call 30 [(.var 2), (.bin .add (.cst (.int 2)) (.call 27 [(.var 2), (.cst (.int 2))]))])), (.asg (.nm 4) (.call 29 [(.var 2), (.var 3)])), (.asg (.nm 5) (.call 27 [(.var 2), (.b1 .len (.var 3))])), (.asg (.nm 6) (.bin .add (.bin .add (.slT (.var 3) (.var 5)) (.tup [(.idx (.lst [(.cst (.int 1001)), (.bin .pow (.cst (.int 10)) (.cst (.int 39))), (.cst (.int 1002))]) (.call 27 [(.var 2), (.cst (.int 3))]))])) (.slF (.var 3) (.bin .add (.var 5) (.cst (.int 1)))))), (.asg (.nm 7) (.idx (.lst [(.cst (.int 0)), (.cst (.int 9)), (.neg (.cst (.int 1))), (.cst (.bool true)), (.cst .non), (.cst (.str (PySem.Str.ofString "1"))), (.tup [(.cst (.int 1))]), (.bin .pow (.cst (.int 10)) (.cst (.int 39)))]) (.call 27 [(.var 2), (.cst (.int 8))]))), (.for_ (.nm 8) (.r1 (.cst (.int 7))) [(.ife (.or (.cmp .ne (.call 31 [(.var 8), (.var 4), (.var 7)]) (.cst (.str (PySem.Str.ofString "lot")))) (.cmp .ne (.call 31 [(.var 8), (.var 6), (.var 7)]) (.cst (.str (PySem.Str.ofString "many"))))) [(.ret (.cst (.bool false)))] []), (.ife (.or (.cmp .ne (.call 31 [(.var 8), (.var 4), (.cst (.int 1))]) (.cst (.str (PySem.Str.ofString "lot")))) (.cmp .ne (.call 31 [(.var 8), (.var 6), (.cst (.int 8))]) (.cst (.str (PySem.Str.ofString "many"))))) [(.ret (.cst (.bool false)))] [])]), (.ife (.cmp .ne (.comp (.call 31 [(.var 8), (.var 3), (.var 7)]) (.nm 8) (.r2 (.cst (.int 4)) (.cst (.int 7))) [] [8]) (.bin .mul (.lst [(.cst (.str (PySem.Str.ofString "number")))]) (.cst (.int 3)))) [(.ret (.cst (.bool false)))] [])]
abbrev tailL : List S := [(.asg (.nm 9) (.bin .add (.comp (.call 31 [(.var 8), (.tup [(.cst (.int 1000)), (.cst (.int 1))]), (.cst (.int 8))]) (.nm 8) (.r1 (.cst (.int 7))) [] [8]) (.comp (.call 31 [(.var 8), (.tup [(.cst (.int 0)), (.cst (.int 1000))]), (.cst (.int 1))]) (.nm 8) (.r1 (.cst (.int 7))) [] [8]))), (.ret (.cmp .eq (.var 9) (.bin .mul (.lst [(.cst (.str (PySem.Str.ofString "told")))]) (.cst (.int 14)))))]
theorem body_ok (n : Nat) (ns : List Int) (k0 : Nat) (w2 w3 w4 w5 w6 w7 w8 w9 : W) (st : Store) : Ok (evSs (callN fns (n + 8)) bodyL [.fz (.scr (ns.map .int)), .fz (.int k0), w2, w3, w4, w5, w6, w7, w8, w9] st) fun fl _ => ∃ w1 w2 w3 w4 w5 w6 w7 w8 w9, fl = .next [.fz (.scr (ns.map .int)), w1, w2, w3, w4, w5, w6, w7, w8, w9] := by
  unfold bodyL
  refine ok_seq ?_
  obtain ⟨c, ec⟩ := c_l_cell_at (n + 7) ns k0 st
  simp only [evS, evE, evEs, evW, evC, evI_of, evI_r1, tested, R.bind_ok, R.bind_exc, R.of_some, List.getElem?_cons_zero, List.getElem?_cons_succ, W.d, bindT, bindTs, Option.map_some, Option.bind_some, List.set, List.length, lim, Nat.reduceAdd, Nat.reduceLT, Nat.reduceLeDiff, Nat.zero_le, if_true, if_false, Bool.not_true, Bool.not_false, Bool.false_eq_true, ok_ok_iff, ec, ok_bind_iff]
  refine (c_l_pot (n + 7) c st).mono ?_
  rintro _ st2 ⟨rfl, hp2⟩
  generalize st.length = p at hp2
  simp only [evS, evE, evEs, evW, evC, evI_of, evI_r1, tested, R.bind_ok, R.bind_exc, R.of_some, List.getElem?_cons_zero, List.getElem?_cons_succ, W.d, bindT, bindTs, Option.map_some, Option.bind_some, List.set, List.length, lim, Nat.reduceAdd, Nat.reduceLT, Nat.reduceLeDiff, Nat.zero_le, if_true, if_false, Bool.not_true, Bool.not_false, Bool.false_eq_true, ok_ok_iff, aft_next]
  refine ok_seq ?_
  simp only [evS, evE, evEs, evW, evC, evI_of, evI_r1, tested, R.bind_ok, R.bind_exc, R.of_some, List.getElem?_cons_zero, List.getElem?_cons_succ, W.d, bindT, bindTs, Option.map_some, Option.bind_some, List.set, List.length, lim, Nat.reduceAdd, Nat.reduceLT, Nat.reduceLeDiff, Nat.zero_le, if_true, if_false, Bool.not_true, Bool.not_false, Bool.false_eq_true, ok_ok_iff, ok_bind_iff]
  refine (c_l_take (n + 7) hp2 (far := 2) (by decide) (by decide)).mono ?_
  rintro _ st3 ⟨s, rfl, s0, s1, hp3⟩
  simp only [evS, evE, evEs, evW, evC, evI_of, evI_r1, tested, R.bind_ok, R.bind_exc, R.of_some, List.getElem?_cons_zero, List.getElem?_cons_succ, W.d, bindT, bindTs, Option.map_some, Option.bind_some, List.set, List.length, lim, Nat.reduceAdd, Nat.reduceLT, Nat.reduceLeDiff, Nat.zero_le, if_true, if_false, Bool.not_true, Bool.not_false, Bool.false_eq_true, ok_ok_iff, bin_add, ok_bind_iff]
  refine (c_l_small_lot (n + 6) hp3 (size := 2 + s) (by omega) (by omega)).mono ?_
  rintro _ st4 ⟨xs, rfl, hl, hx, hps, hp4⟩
  simp only [evS, evE, evEs, evW, evC, evI_of, evI_r1, tested, R.bind_ok, R.bind_exc, R.of_some, List.getElem?_cons_zero, List.getElem?_cons_succ, W.d, bindT, bindTs, Option.map_some, Option.bind_some, List.set, List.length, lim, Nat.reduceAdd, Nat.reduceLT, Nat.reduceLeDiff, Nat.zero_le, if_true, if_false, Bool.not_true, Bool.not_false, Bool.false_eq_true, ok_ok_iff]
  rw [aft_next]
  have big : (1000 : Int) < 2 ^ 200 := by decide +kernel
  have h2 : 2 ≤ xs.length := by omega
  have h4 : xs.length ≤ 4 := by omega
  have L : Lot 200 xs := ⟨h2, h4, fun x h => (hx x h).1, hps, fun x h => Int.lt_of_le_of_lt (hx x h).2 big⟩
  have hs : ∀ x ∈ xs, x ≤ 1000 := fun x h => (hx x h).2
  refine ok_seq ?_
  simp only [evS, evE, evEs, evW, evC, evI_of, evI_r1, tested, R.bind_ok, R.bind_exc, R.of_some, List.getElem?_cons_zero, List.getElem?_cons_succ, W.d, bindT, bindTs, Option.map_some, Option.bind_some, List.set, List.length, lim, Nat.reduceAdd, Nat.reduceLT, Nat.reduceLeDiff, Nat.zero_le, if_true, if_false, Bool.not_true, Bool.not_false, Bool.false_eq_true, ok_ok_iff, ok_bind_iff]
  refine (c_l_no_lot (n + 6) hp4 h2 h4 L.bv).mono ?_
  rintro _ st5 ⟨nol, rfl, on, hn, hp5⟩
  simp only [evS, evE, evEs, evW, evC, evI_of, evI_r1, tested, R.bind_ok, R.bind_exc, R.of_some, List.getElem?_cons_zero, List.getElem?_cons_succ, W.d, bindT, bindTs, Option.map_some, Option.bind_some, List.set, List.length, lim, Nat.reduceAdd, Nat.reduceLT, Nat.reduceLeDiff, Nat.zero_le, if_true, if_false, Bool.not_true, Bool.not_false, Bool.false_eq_true, ok_ok_iff]
  rw [aft_next]
  refine ok_seq ?_
  simp only [evS, evE, evEs, evW, evC, evI_of, evI_r1, tested, R.bind_ok, R.bind_exc, R.of_some, List.getElem?_cons_zero, List.getElem?_cons_succ, W.d, bindT, bindTs, Option.map_some, Option.bind_some, List.set, List.length, lim, Nat.reduceAdd, Nat.reduceLT, Nat.reduceLeDiff, Nat.zero_le, if_true, if_false, Bool.not_true, Bool.not_false, Bool.false_eq_true, ok_ok_iff, ti_len, ok_bind_iff]
  refine (c_l_take (n + 7) hp5 (far := (xs.length : Int)) (by omega) (far_small (by omega))).mono ?_
  rintro _ st6 ⟨j, rfl, j0, j1, hp6⟩
  simp only [evS, evE, evEs, evW, evC, evI_of, evI_r1, tested, R.bind_ok, R.bind_exc, R.of_some, List.getElem?_cons_zero, List.getElem?_cons_succ, W.d, bindT, bindTs, Option.map_some, Option.bind_some, List.set, List.length, lim, Nat.reduceAdd, Nat.reduceLT, Nat.reduceLeDiff, Nat.zero_le, if_true, if_false, Bool.not_true, Bool.not_false, Bool.false_eq_true, ok_ok_iff]
  rw [aft_next]
  have lm : (xs.map D.int).length = xs.length := List.length_map ..
  have t1 : sliceD (ti xs) none (some j) = some (.tup ((xs.map .int).take j.toNat)) := slT_tup j0 (by omega)
  have t2 : sliceD (ti xs) (some (j + 1)) none = some (.tup ((xs.map .int).drop (j + 1).toNat)) := slF_tup (by omega)
  have p39 : powOk 10 39 = true := by decide
  refine ok_seq ?_
  simp only [evS, evE, evEs, evW, evC, evI_of, evI_r1, tested, R.bind_ok, R.bind_exc, R.of_some, List.getElem?_cons_zero, List.getElem?_cons_succ, W.d, bindT, bindTs, Option.map_some, Option.bind_some, List.set, List.length, lim, Nat.reduceAdd, Nat.reduceLT, Nat.reduceLeDiff, Nat.zero_le, if_true, if_false, Bool.not_true, Bool.not_false, Bool.false_eq_true, ok_ok_iff, t1, bin_pow p39, ok_bind_iff]
  refine (c_l_take (n + 7) hp6 (far := 3) (by decide) (by decide)).mono ?_
  rintro _ st7 ⟨k, rfl, k0', k1, hp7⟩
  obtain ⟨g, eg, g0, gb⟩ : ∃ g : Int, idxD (.lst [.int 1001, .int (10 ^ (39 : Int).toNat), .int 1002]) (.int k) = some (.int g) ∧ 1000 < g ∧ g < 2 ^ 200 := by
    rcases (show k = 0 ∨ k = 1 ∨ k = 2 by omega) with rfl | rfl | rfl
    · exact ⟨1001, rfl, by decide, by decide +kernel⟩
    · exact ⟨10 ^ (39 : Int).toNat, rfl, by decide +kernel, by decide +kernel⟩
    · exact ⟨1002, rfl, by decide, by decide +kernel⟩
  obtain ⟨a1, a2⟩ := great_eq (g := g) h4 j0
  simp only [evS, evE, evEs, evW, evC, evI_of, evI_r1, tested, R.bind_ok, R.bind_exc, R.of_some, List.getElem?_cons_zero, List.getElem?_cons_succ, W.d, bindT, bindTs, Option.map_some, Option.bind_some, List.set, List.length, lim, Nat.reduceAdd, Nat.reduceLT, Nat.reduceLeDiff, Nat.zero_le, if_true, if_false, Bool.not_true, Bool.not_false, Bool.false_eq_true, ok_ok_iff, eg, a1, bin_add, t2, a2]
  rw [aft_next]
  have Lg := great_lot L j0 j1 (g := g) (by omega) gb
  have hg : ∃ x ∈ xs.take j.toNat ++ [g] ++ xs.drop (j + 1).toNat, 1000 < x := ⟨g, by simp, g0⟩
  generalize xs.take j.toNat ++ [g] ++ xs.drop (j + 1).toNat = gs at Lg hg
  refine ok_seq ?_
  simp only [evS, evE, evEs, evW, evC, evI_of, evI_r1, tested, R.bind_ok, R.bind_exc, R.of_some, List.getElem?_cons_zero, List.getElem?_cons_succ, W.d, bindT, bindTs, Option.map_some, Option.bind_some, List.set, List.length, lim, Nat.reduceAdd, Nat.reduceLT, Nat.reduceLeDiff, Nat.zero_le, if_true, if_false, Bool.not_true, Bool.not_false, Bool.false_eq_true, ok_ok_iff, bin_pow p39, ok_bind_iff]
  refine (c_l_take (n + 7) hp7 (far := 8) (by decide) (by decide)).mono ?_
  rintro _ st8 ⟨m, rfl, m0, m1, hp8⟩
  generalize hL : ([_, _, _, _, _, _, _, _] : List D) = ds
  obtain ⟨bad, eb, hb⟩ := idx_some (ds := ds) m0 (by rw [← hL]; exact m1)
  have nb : noUp 1 8 bad = true := by
    have : ds.all (noUp 1 8) = true := by rw [← hL]; decide +kernel
    exact List.all_eq_true.mp this bad hb
  simp only [evS, evE, evEs, evW, evC, evI_of, evI_r1, tested, R.bind_ok, R.bind_exc, R.of_some, List.getElem?_cons_zero, List.getElem?_cons_succ, W.d, bindT, bindTs, Option.map_some, Option.bind_some, List.set, List.length, lim, Nat.reduceAdd, Nat.reduceLT, Nat.reduceLeDiff, Nat.zero_le, if_true, if_false, Bool.not_true, Bool.not_false, Bool.false_eq_true, ok_ok_iff, eb]
  rw [aft_next]
  have n1 : cmpop .ne (.str (PySem.Str.ofString "lot")) (.str (PySem.Str.ofString "lot")) = some false := by decide +kernel
  have n2 : cmpop .ne (.str (PySem.Str.ofString "many")) (.str (PySem.Str.ofString "many")) = some false := by decide +kernel
  have w1 : wordOf kinW 1 = some (PySem.Str.ofString "lot") := by decide +kernel
  have w14 : wordOf kinW 14 = some (PySem.Str.ofString "many") := by decide +kernel
  have w13 : wordOf kinW 13 = some (PySem.Str.ofString "number") := by decide +kernel
  -- each way refuses no lot, then great numbers
  refine ok_seq ?_
  obtain ⟨ks, ek, hk, hks⟩ := range_len (j := 7) (by decide) (by decide)
  simp only [evS, evE, evEs, evW, evC, evI_of, evI_r1, tested, R.bind_ok, R.bind_exc, R.of_some, List.getElem?_cons_zero, List.getElem?_cons_succ, W.d, bindT, bindTs, Option.map_some, Option.bind_some, List.set, List.length, lim, Nat.reduceAdd, Nat.reduceLT, Nat.reduceLeDiff, Nat.zero_le, if_true, if_false, Bool.not_true, Bool.not_false, Bool.false_eq_true, ok_ok_iff, ek]
  refine (forGo_inv (I := fun env st' => st8 = st' ∧ ∃ w8, env = [W.fz (.scr (ns.map .int)), .fz (.int k0), .fz (.ref p), .fz (ti xs), .fz nol, .fz (.int j), .fz (ti gs), .fz bad, w8, w9]) _ _ st8 ⟨rfl, _, rfl⟩ ?_).mono ?_
  · rintro x hx env st' ⟨rfl, v8, rfl⟩
    obtain ⟨i, rfl, i0, i1⟩ := hks x hx
    obtain ⟨i, rfl⟩ := Int.eq_ofNat_of_zero_le i0
    have i7 : i < 7 := by omega
    refine ⟨_, rfl, ?_⟩
    simp only [List.set]
    have u1 := fun e => told_ex n (e := e) w1 (fun n => c_check_small_no n on hn st8) i i7
    have u2 := fun e => told_ex n (e := e) w14 (fun n => c_check_small_many n Lg hg st8) i i7
    refine ok_seq ?_
    simp only [evS, evE, evEs, evW, evC, evI_of, evI_r1, tested, R.bind_ok, R.bind_exc, R.of_some, List.getElem?_cons_zero, List.getElem?_cons_succ, W.d, bindT, bindTs, Option.map_some, Option.bind_some, List.set, List.length, lim, Nat.reduceAdd, Nat.reduceLT, Nat.reduceLeDiff, Nat.zero_le, if_true, if_false, Bool.not_true, Bool.not_false, Bool.false_eq_true, ok_ok_iff, u1, u2, n1, n2, evSs]
    rw [aft_next]
    refine ok_seq ?_
    simp only [evS, evE, evEs, evW, evC, evI_of, evI_r1, tested, R.bind_ok, R.bind_exc, R.of_some, List.getElem?_cons_zero, List.getElem?_cons_succ, W.d, bindT, bindTs, Option.map_some, Option.bind_some, List.set, List.length, lim, Nat.reduceAdd, Nat.reduceLT, Nat.reduceLeDiff, Nat.zero_le, if_true, if_false, Bool.not_true, Bool.not_false, Bool.false_eq_true, ok_ok_iff, u1, u2, n1, n2, evSs]
    rw [aft_next]
    exact ok_nil ⟨_, rfl, rfl, _, rfl⟩
  rintro _ _ ⟨env, rfl, rfl, v8, rfl⟩
  rw [aft_next]
  -- then what is no number
  refine ok_seq ?_
  have r47 : rangeI 4 7 1 = some [.int 4, .int 5, .int 6] := rfl
  simp only [evS, evE, evEs, evW, evC, evI_of, evI_r1, tested, R.bind_ok, R.bind_exc, R.of_some, List.getElem?_cons_zero, List.getElem?_cons_succ, W.d, bindT, bindTs, Option.map_some, Option.bind_some, List.set, List.length, lim, Nat.reduceAdd, Nat.reduceLT, Nat.reduceLeDiff, Nat.zero_le, if_true, if_false, Bool.not_true, Bool.not_false, Bool.false_eq_true, ok_ok_iff, evI, r47, wipe]
  rw [compGo_map (g := fun _ => D.str (PySem.Str.ofString "number")) [.int 4, .int 5, .int 6] fun x hx => ⟨_, rfl, rfl, by
    simp only [List.mem_cons, List.not_mem_nil, or_false] at hx
    have u := told_cl n w13 (fun n => c_check_clash_nn n L hs nb st8)
    have U : ∀ i : Int, 4 ≤ i → i < 7 → callN fns (n + 8) i_l_told [.int i, ti xs, bad] st8 = .ok (.fz (.str (PySem.Str.ofString "number"))) st8 := fun i h0 h1 => by
      obtain ⟨j, rfl⟩ := Int.eq_ofNat_of_zero_le (show 0 ≤ i by omega)
      exact u j (by omega) (by omega)
    have u4 := U 4 (by decide) (by decide)
    have u5 := U 5 (by decide) (by decide)
    have u6 := U 6 (by decide) (by decide)
    rcases hx with rfl | rfl | rfl
    · simp only [evS, evE, evEs, evW, evC, evI_of, evI_r1, tested, R.bind_ok, R.bind_exc, R.of_some, List.getElem?_cons_zero, List.getElem?_cons_succ, W.d, bindT, bindTs, Option.map_some, Option.bind_some, List.set, List.length, lim, Nat.reduceAdd, Nat.reduceLT, Nat.reduceLeDiff, Nat.zero_le, if_true, if_false, Bool.not_true, Bool.not_false, Bool.false_eq_true, ok_ok_iff, u4]
    · simp only [evS, evE, evEs, evW, evC, evI_of, evI_r1, tested, R.bind_ok, R.bind_exc, R.of_some, List.getElem?_cons_zero, List.getElem?_cons_succ, W.d, bindT, bindTs, Option.map_some, Option.bind_some, List.set, List.length, lim, Nat.reduceAdd, Nat.reduceLT, Nat.reduceLeDiff, Nat.zero_le, if_true, if_false, Bool.not_true, Bool.not_false, Bool.false_eq_true, ok_ok_iff, u5]
    · simp only [evS, evE, evEs, evW, evC, evI_of, evI_r1, tested, R.bind_ok, R.bind_exc, R.of_some, List.getElem?_cons_zero, List.getElem?_cons_succ, W.d, bindT, bindTs, Option.map_some, Option.bind_some, List.set, List.length, lim, Nat.reduceAdd, Nat.reduceLT, Nat.reduceLeDiff, Nat.zero_le, if_true, if_false, Bool.not_true, Bool.not_false, Bool.false_eq_true, ok_ok_iff, u6]⟩]
  rw [lined_ok (by simp)]
  have mu : binop .mul (.lst [.str (PySem.Str.ofString "number")]) (.int 3) = some (.lst [.str (PySem.Str.ofString "number"), .str (PySem.Str.ofString "number"), .str (PySem.Str.ofString "number")]) := rfl
  have nn : cmpop .ne (.lst [.str (PySem.Str.ofString "number"), .str (PySem.Str.ofString "number"), .str (PySem.Str.ofString "number")]) (.lst [.str (PySem.Str.ofString "number"), .str (PySem.Str.ofString "number"), .str (PySem.Str.ofString "number")]) = some false := by decide +kernel
  simp only [evS, evE, evEs, evW, evC, evI_of, evI_r1, tested, R.bind_ok, R.bind_exc, R.of_some, List.getElem?_cons_zero, List.getElem?_cons_succ, W.d, bindT, bindTs, Option.map_some, Option.bind_some, List.set, List.length, lim, Nat.reduceAdd, Nat.reduceLT, Nat.reduceLeDiff, Nat.zero_le, if_true, if_false, Bool.not_true, Bool.not_false, Bool.false_eq_true, ok_ok_iff, List.map, mu, nn, evSs]
  rw [aft_next]
  exact ok_nil ⟨_, _, _, _, _, _, _, _, _, rfl⟩
theorem tail_ok (n : Nat) (ns : List Int) (w1 w2 w3 w4 w5 w6 w7 w8 w9 : W) (st : Store) : Ok (evSs (callN fns (n + 8)) tailL [.fz (.scr (ns.map .int)), w1, w2, w3, w4, w5, w6, w7, w8, w9] st) (outQ fun w _ => w = .fz (.bool true)) := by
  unfold tailL
  have La : Lot 200 [1000, 1] := ⟨by decide, by decide, by decide, ⟨1000, by decide, by decide⟩, by
    intro x hx
    simp only [List.mem_cons, List.not_mem_nil, or_false] at hx
    rcases hx with rfl | rfl <;> decide +kernel⟩
  have Lb : Lot 200 [0, 1000] := ⟨by decide, by decide, by decide, ⟨1000, by decide, by decide⟩, by
    intro x hx
    simp only [List.mem_cons, List.not_mem_nil, or_false] at hx
    rcases hx with rfl | rfl <;> decide +kernel⟩
  have ua := told_ok n La (by decide) (fun n => c_of_two_a n st) (fun n => c_clash_a n st) (by decide) (by decide)
  have ub := told_ok n Lb (by decide) (fun n => c_of_two_b n st) (fun n => c_clash_b n st) (by decide) (by decide)
  have ta : ti [1000, 1] = .tup [.int 1000, .int 1] := rfl
  have tb' : ti [0, 1000] = .tup [.int 0, .int 1000] := rfl
  rw [ta] at ua
  rw [tb'] at ub
  have A : ∀ i : Int, 0 ≤ i → i < 7 → callN fns (n + 8) i_l_told [.int i, .tup [.int 1000, .int 1], .int 8] st = .ok (.fz (.str (PySem.Str.ofString "told"))) st := fun i h0 h1 => by
    obtain ⟨j, rfl⟩ := Int.eq_ofNat_of_zero_le h0
    exact ua j (by omega)
  have B : ∀ i : Int, 0 ≤ i → i < 7 → callN fns (n + 8) i_l_told [.int i, .tup [.int 0, .int 1000], .int 1] st = .ok (.fz (.str (PySem.Str.ofString "told"))) st := fun i h0 h1 => by
    obtain ⟨j, rfl⟩ := Int.eq_ofNat_of_zero_le h0
    exact ub j (by omega)
  have r7 : rangeI 0 7 1 = some [.int 0, .int 1, .int 2, .int 3, .int 4, .int 5, .int 6] := rfl
  have a0 := A 0 (by decide) (by decide); have a1 := A 1 (by decide) (by decide); have a2 := A 2 (by decide) (by decide); have a3 := A 3 (by decide) (by decide); have a4 := A 4 (by decide) (by decide); have a5 := A 5 (by decide) (by decide); have a6 := A 6 (by decide) (by decide)
  have b0 := B 0 (by decide) (by decide); have b1 := B 1 (by decide) (by decide); have b2 := B 2 (by decide) (by decide); have b3 := B 3 (by decide) (by decide); have b4 := B 4 (by decide) (by decide); have b5 := B 5 (by decide) (by decide); have b6 := B 6 (by decide) (by decide)
  refine ok_seq ?_
  simp only [evS, evE, evEs, evW, evC, evI_of, evI_r1, tested, R.bind_ok, R.bind_exc, R.of_some, List.getElem?_cons_zero, List.getElem?_cons_succ, W.d, bindT, bindTs, Option.map_some, Option.bind_some, List.set, List.length, lim, Nat.reduceAdd, Nat.reduceLT, Nat.reduceLeDiff, Nat.zero_le, if_true, if_false, Bool.not_true, Bool.not_false, Bool.false_eq_true, ok_ok_iff, r7, wipe]
  rw [compGo_map (g := fun _ => D.str (PySem.Str.ofString "told")) [.int 0, .int 1, .int 2, .int 3, .int 4, .int 5, .int 6] fun x hx => ⟨_, rfl, rfl, by
    simp only [List.mem_cons, List.not_mem_nil, or_false] at hx
    rcases hx with rfl | rfl | rfl | rfl | rfl | rfl | rfl
    · simp only [evS, evE, evEs, evW, evC, evI_of, evI_r1, tested, R.bind_ok, R.bind_exc, R.of_some, List.getElem?_cons_zero, List.getElem?_cons_succ, W.d, bindT, bindTs, Option.map_some, Option.bind_some, List.set, List.length, lim, Nat.reduceAdd, Nat.reduceLT, Nat.reduceLeDiff, Nat.zero_le, if_true, if_false, Bool.not_true, Bool.not_false, Bool.false_eq_true, ok_ok_iff, a0]
    · simp only [evS, evE, evEs, evW, evC, evI_of, evI_r1, tested, R.bind_ok, R.bind_exc, R.of_some, List.getElem?_cons_zero, List.getElem?_cons_succ, W.d, bindT, bindTs, Option.map_some, Option.bind_some, List.set, List.length, lim, Nat.reduceAdd, Nat.reduceLT, Nat.reduceLeDiff, Nat.zero_le, if_true, if_false, Bool.not_true, Bool.not_false, Bool.false_eq_true, ok_ok_iff, a1]
    · simp only [evS, evE, evEs, evW, evC, evI_of, evI_r1, tested, R.bind_ok, R.bind_exc, R.of_some, List.getElem?_cons_zero, List.getElem?_cons_succ, W.d, bindT, bindTs, Option.map_some, Option.bind_some, List.set, List.length, lim, Nat.reduceAdd, Nat.reduceLT, Nat.reduceLeDiff, Nat.zero_le, if_true, if_false, Bool.not_true, Bool.not_false, Bool.false_eq_true, ok_ok_iff, a2]
    · simp only [evS, evE, evEs, evW, evC, evI_of, evI_r1, tested, R.bind_ok, R.bind_exc, R.of_some, List.getElem?_cons_zero, List.getElem?_cons_succ, W.d, bindT, bindTs, Option.map_some, Option.bind_some, List.set, List.length, lim, Nat.reduceAdd, Nat.reduceLT, Nat.reduceLeDiff, Nat.zero_le, if_true, if_false, Bool.not_true, Bool.not_false, Bool.false_eq_true, ok_ok_iff, a3]
    · simp only [evS, evE, evEs, evW, evC, evI_of, evI_r1, tested, R.bind_ok, R.bind_exc, R.of_some, List.getElem?_cons_zero, List.getElem?_cons_succ, W.d, bindT, bindTs, Option.map_some, Option.bind_some, List.set, List.length, lim, Nat.reduceAdd, Nat.reduceLT, Nat.reduceLeDiff, Nat.zero_le, if_true, if_false, Bool.not_true, Bool.not_false, Bool.false_eq_true, ok_ok_iff, a4]
    · simp only [evS, evE, evEs, evW, evC, evI_of, evI_r1, tested, R.bind_ok, R.bind_exc, R.of_some, List.getElem?_cons_zero, List.getElem?_cons_succ, W.d, bindT, bindTs, Option.map_some, Option.bind_some, List.set, List.length, lim, Nat.reduceAdd, Nat.reduceLT, Nat.reduceLeDiff, Nat.zero_le, if_true, if_false, Bool.not_true, Bool.not_false, Bool.false_eq_true, ok_ok_iff, a5]
    · simp only [evS, evE, evEs, evW, evC, evI_of, evI_r1, tested, R.bind_ok, R.bind_exc, R.of_some, List.getElem?_cons_zero, List.getElem?_cons_succ, W.d, bindT, bindTs, Option.map_some, Option.bind_some, List.set, List.length, lim, Nat.reduceAdd, Nat.reduceLT, Nat.reduceLeDiff, Nat.zero_le, if_true, if_false, Bool.not_true, Bool.not_false, Bool.false_eq_true, ok_ok_iff, a6]⟩]
  rw [lined_ok (by simp)]
  simp only [evS, evE, evEs, evW, evC, evI_of, evI_r1, tested, R.bind_ok, R.bind_exc, R.of_some, List.getElem?_cons_zero, List.getElem?_cons_succ, W.d, bindT, bindTs, Option.map_some, Option.bind_some, List.set, List.length, lim, Nat.reduceAdd, Nat.reduceLT, Nat.reduceLeDiff, Nat.zero_le, if_true, if_false, Bool.not_true, Bool.not_false, Bool.false_eq_true, ok_ok_iff, wipe]
  rw [compGo_map (g := fun _ => D.str (PySem.Str.ofString "told")) [.int 0, .int 1, .int 2, .int 3, .int 4, .int 5, .int 6] fun x hx => ⟨_, rfl, rfl, by
    simp only [List.mem_cons, List.not_mem_nil, or_false] at hx
    rcases hx with rfl | rfl | rfl | rfl | rfl | rfl | rfl
    · simp only [evS, evE, evEs, evW, evC, evI_of, evI_r1, tested, R.bind_ok, R.bind_exc, R.of_some, List.getElem?_cons_zero, List.getElem?_cons_succ, W.d, bindT, bindTs, Option.map_some, Option.bind_some, List.set, List.length, lim, Nat.reduceAdd, Nat.reduceLT, Nat.reduceLeDiff, Nat.zero_le, if_true, if_false, Bool.not_true, Bool.not_false, Bool.false_eq_true, ok_ok_iff, b0]
    · simp only [evS, evE, evEs, evW, evC, evI_of, evI_r1, tested, R.bind_ok, R.bind_exc, R.of_some, List.getElem?_cons_zero, List.getElem?_cons_succ, W.d, bindT, bindTs, Option.map_some, Option.bind_some, List.set, List.length, lim, Nat.reduceAdd, Nat.reduceLT, Nat.reduceLeDiff, Nat.zero_le, if_true, if_false, Bool.not_true, Bool.not_false, Bool.false_eq_true, ok_ok_iff, b1]
    · simp only [evS, evE, evEs, evW, evC, evI_of, evI_r1, tested, R.bind_ok, R.bind_exc, R.of_some, List.getElem?_cons_zero, List.getElem?_cons_succ, W.d, bindT, bindTs, Option.map_some, Option.bind_some, List.set, List.length, lim, Nat.reduceAdd, Nat.reduceLT, Nat.reduceLeDiff, Nat.zero_le, if_true, if_false, Bool.not_true, Bool.not_false, Bool.false_eq_true, ok_ok_iff, b2]
    · simp only [evS, evE, evEs, evW, evC, evI_of, evI_r1, tested, R.bind_ok, R.bind_exc, R.of_some, List.getElem?_cons_zero, List.getElem?_cons_succ, W.d, bindT, bindTs, Option.map_some, Option.bind_some, List.set, List.length, lim, Nat.reduceAdd, Nat.reduceLT, Nat.reduceLeDiff, Nat.zero_le, if_true, if_false, Bool.not_true, Bool.not_false, Bool.false_eq_true, ok_ok_iff, b3]
    · simp only [evS, evE, evEs, evW, evC, evI_of, evI_r1, tested, R.bind_ok, R.bind_exc, R.of_some, List.getElem?_cons_zero, List.getElem?_cons_succ, W.d, bindT, bindTs, Option.map_some, Option.bind_some, List.set, List.length, lim, Nat.reduceAdd, Nat.reduceLT, Nat.reduceLeDiff, Nat.zero_le, if_true, if_false, Bool.not_true, Bool.not_false, Bool.false_eq_true, ok_ok_iff, b4]
    · simp only [evS, evE, evEs, evW, evC, evI_of, evI_r1, tested, R.bind_ok, R.bind_exc, R.of_some, List.getElem?_cons_zero, List.getElem?_cons_succ, W.d, bindT, bindTs, Option.map_some, Option.bind_some, List.set, List.length, lim, Nat.reduceAdd, Nat.reduceLT, Nat.reduceLeDiff, Nat.zero_le, if_true, if_false, Bool.not_true, Bool.not_false, Bool.false_eq_true, ok_ok_iff, b5]
    · simp only [evS, evE, evEs, evW, evC, evI_of, evI_r1, tested, R.bind_ok, R.bind_exc, R.of_some, List.getElem?_cons_zero, List.getElem?_cons_succ, W.d, bindT, bindTs, Option.map_some, Option.bind_some, List.set, List.length, lim, Nat.reduceAdd, Nat.reduceLT, Nat.reduceLeDiff, Nat.zero_le, if_true, if_false, Bool.not_true, Bool.not_false, Bool.false_eq_true, ok_ok_iff, b6]⟩]
  rw [lined_ok (by simp)]
  simp only [evS, evE, evEs, evW, evC, evI_of, evI_r1, tested, R.bind_ok, R.bind_exc, R.of_some, List.getElem?_cons_zero, List.getElem?_cons_succ, W.d, bindT, bindTs, Option.map_some, Option.bind_some, List.set, List.length, lim, Nat.reduceAdd, Nat.reduceLT, Nat.reduceLeDiff, Nat.zero_le, if_true, if_false, Bool.not_true, Bool.not_false, Bool.false_eq_true, ok_ok_iff, List.map]
  generalize hT : D.str (PySem.Str.ofString "told") = t
  have ad : binop .add (.lst [t, t, t, t, t, t, t]) (.lst [t, t, t, t, t, t, t]) = some (.lst [t, t, t, t, t, t, t, t, t, t, t, t, t, t]) := rfl
  have mu : binop .mul (.lst [t]) (.int 14) = some (.lst [t, t, t, t, t, t, t, t, t, t, t, t, t, t]) := rfl
  have eq' : cmpop .eq (.lst [t, t, t, t, t, t, t, t, t, t, t, t, t, t]) (.lst [t, t, t, t, t, t, t, t, t, t, t, t, t, t]) = some true := by
    rw [← hT]; decide +kernel
  simp only [evS, evE, evEs, evW, evC, evI_of, evI_r1, tested, R.bind_ok, R.bind_exc, R.of_some, List.getElem?_cons_zero, List.getElem?_cons_succ, W.d, bindT, bindTs, Option.map_some, Option.bind_some, List.set, List.length, lim, Nat.reduceAdd, Nat.reduceLT, Nat.reduceLeDiff, Nat.zero_le, if_true, if_false, Bool.not_true, Bool.not_false, Bool.false_eq_true, ok_ok_iff, ad]
  rw [aft_next]
  refine ok_seq ?_
  simp only [evS, evE, evEs, evW, evC, evI_of, evI_r1, tested, R.bind_ok, R.bind_exc, R.of_some, List.getElem?_cons_zero, List.getElem?_cons_succ, W.d, bindT, bindTs, Option.map_some, Option.bind_some, List.set, List.length, lim, Nat.reduceAdd, Nat.reduceLT, Nat.reduceLeDiff, Nat.zero_le, if_true, if_false, Bool.not_true, Bool.not_false, Bool.false_eq_true, ok_ok_iff, hT, mu, eq', aft_ret, outQ_ret]
theorem law_true_n (n : Nat) (ns : List Int) (hl : ns.length ≤ 63) : Ok (callN fns (n + 9) i_law [.scr (ns.map .int)] []) fun w _ => w = .fz (.bool true) := by
  refine ok_call g_law rfl ?_
  unfold b_law
  simp only [startE, List.map, List.length, List.replicate, List.cons_append, List.nil_append]
  refine ok_seq (Ok.mono (Q := fun fl st' => ∃ w1 w2 w3 w4 w5 w6 w7 w8 w9, fl = .next [.fz (.scr (ns.map .int)), w1, w2, w3, w4, w5, w6, w7, w8, w9]) ?_ ?_)
  · simp only [evS, evE, evI_r1, R.bind_ok, R.of_some, List.getElem?_cons_zero, len_scr, min2_int, max2_int, List.length_map]
    obtain ⟨ks, ek, hk, hks⟩ := range_len (j := if (if (8:Int) < (ns.length : Int) then (8:Int) else (ns.length : Int)) > 1 then (if (8:Int) < (ns.length : Int) then (8:Int) else (ns.length : Int)) else 1) (by split <;> split <;> omega) (by split <;> split <;> omega)
    rw [ek]
    simp only [R.of_some, R.bind_ok]
    refine (forGo_inv (I := fun env st' => ∃ w1 w2 w3 w4 w5 w6 w7 w8 w9, env = [.fz (.scr (ns.map .int)), w1, w2, w3, w4, w5, w6, w7, w8, w9]) ks _ [] ⟨_, _, _, _, _, _, _, _, _, rfl⟩ ?_).mono ?_
    · rintro x hx env st ⟨w1, w2, w3, w4, w5, w6, w7, w8, w9, rfl⟩
      obtain ⟨k0, rfl, k00, _⟩ := hks x hx
      obtain ⟨k0, rfl⟩ := Int.eq_ofNat_of_zero_le k00
      refine ⟨_, rfl, ?_⟩
      simp only [List.set]
      refine (body_ok n ns k0 w2 w3 w4 w5 w6 w7 w8 w9 st).mono ?_
      rintro fl st' ⟨v1, v2, v3, v4, v5, v6, v7, v8, v9, rfl⟩
      exact ⟨_, rfl, _, _, _, _, _, _, _, _, _, rfl⟩
    · rintro fl st' ⟨env, rfl, w1, w2, w3, w4, w5, w6, w7, w8, w9, rfl⟩
      exact ⟨_, _, _, _, _, _, _, _, _, rfl⟩
  rintro _ st1 ⟨w1, w2, w3, w4, w5, w6, w7, w8, w9, rfl⟩
  rw [aft_next]
  exact tail_ok n ns w1 w2 w3 w4 w5 w6 w7 w8 w9 st1
theorem law_true (ns : List Int) (hl : ns.length ≤ 63) : ∃ st, callN fns 13 i_law [.scr (ns.map .int)] [] = .ok (.fz (.bool true)) st := by
  obtain ⟨w, st, e, rfl⟩ := law_true_n 4 ns hl
  exact ⟨st, e⟩

end L53

open PySem PySem.W PySem.Calls PyProof.Rows
set_option maxRecDepth 100000 in
set_option maxHeartbeats 0 in
theorem PySem.Challenge.cw_drawndown_k53_no_least_holds : PySem.Challenge.rw_drawndown_k53_no_least.Holds := by
  w_on; o_law
  refine HandSHeadRun.head_any (r := OpenLaw.row PySem.Challenge.rw_drawndown_k53_no_least) (q := view (OpenLaw.row PySem.Challenge.rw_drawndown_k53_no_least).prog [57]) (H := L53.hk) (ob := L53.ob) (M := 8000) (loose := L53.loose) (d := HandSHeadRun.topDef (OpenLaw.row PySem.Challenge.rw_drawndown_k53_no_least).prog 57) (kwd := []) L53.ob_eq
    (by kernel_rfl) (fun s => by kernel_rfl) L53.run (by kernel_rfl) (by kernel_rfl) (by kernel_rfl) (by rfl) (by first | assumption | decide +kernel) (by decide +kernel) ⟨rfl, rfl, rfl, rfl, rfl, by decide +kernel⟩ ?hw ?hc
  case hw => w_witness2
  case hc => exact DDS.law_end (l := PySem.Challenge.rw_drawndown_k53_no_least) (tx := L53.tx) (ds := L53.ds) (n := 13) (x := PySem.Str.ofString "_law_script") (d := L53.d_law) (i := L53.i_law) rfl (by kernel_rfl) (by kernel_rfl) L53.tx_fns L53.cks L53.bds rfl rfl (by decide) fun ns hl => L53.law_true ns hl


