import PyProof.Rows.All
import Wide.All
import OpenK.AllK
import Wide.FinOn
import HandS.ForMost
import HandS.WordsExc
import HandS.TryOnly
import HandS.TryMany
import HandS.CallSlots
import HandS.TupAny
import HandS.Style
import HandS.Deep
import HandS.Walk
import HandS.Zip
import HandS.StrMore
import HandS.IsInst
import HandS.Flow
import HandS.TupMul
import KE.LtData
import KE.SortData
import KE.DataCmp
import PyProof.ListStr
import KE.IntTextLaws
import KE.GoesEnum
import KE.GoesMore
import KE.GoesZip
import HandS.RevTup
import PyProof.Rows.StrCut
import PyProof.Rows.StrCountLaw
import PyProof.StrLawsFirst
import HandS.ReCall
import PyProof.SeqIndex
import HandS.Conv
import HandS.Iter
import KE.DataMinMax
import HandS.Sort
import PyProof.ToksMono
import HandS.HeadHook1
import HandS.ExcOwn
import HandS.ExcIs
import HandS.ExcBuiltin
import HandS.HotCalls
import PyProof.ExcBaseAll.ValueError
import HandS.Replace
import HandS.ReplaceList
import HandS.ReplaceLit
import HandS.Head0
import HandS.Head1
import HandS.Head2
import HandS.HeadEnd
import HandS.HeadHook2
import PySem.Challenge.RW_bargaps_k03_checks
set_option Elab.async false
set_option linter.all false
set_option maxRecDepth 100000
set_option maxHeartbeats 4000000
/-! Dk0: plain data, a small language, its evaluator. No program in sight. -/
namespace Dk
inductive D where
  | non
  | bl (b : Bool)
  | int (i : Int)
  | str (s : List Nat)
  | tup (xs : List D)
  | lst (xs : List D)
  | frz (xs : List Int)
  | fn (k : Nat)
  deriving Inhabited

/-- what an expression comes to: a value; a list that a name of the frame holds to be changed; an error of the c-th class; no word -/
inductive R where
  | ok (d : D)
  | okm (xs : List D)
  | exc (c : Nat)
  | bad

/-- what a slot holds: a value; a list to be changed -/
inductive Sl where
  | im (d : D)
  | mu (xs : List D)

abbrev En := List (Option Sl)

/-- how a statement ends -/
inductive Fl where
  | nx (ρ : En)
  | rt (d : D)
  | exc (c : Nat) (ρ : En)
  | bad

def R.bnd (r : R) (f : D → R) : R := match r with
  | .ok d => f d
  | .okm xs => f (.lst xs)
  | .exc c => .exc c
  | .bad => .bad
/-- only a value that stands by itself -/
def R.bndS (r : R) (f : D → R) : R := match r with
  | .ok d => f d
  | .okm _ => .bad
  | .exc c => .exc c
  | .bad => .bad

inductive Rs where
  | ok (ds : List D)
  | exc (c : Nat)
  | bad
def Rs.bnd (r : Rs) (f : List D → R) : R := match r with
  | .ok ds => f ds
  | .exc c => .exc c
  | .bad => .bad

inductive BOp | add | sub | mul | fdiv | mod | pow
  deriving DecidableEq
inductive COp | eq | ne | lt | le | gt | ge | isin | notin | is | isnt
  deriving DecidableEq
inductive Ty | int | str | tup | bl | intstr
  deriving DecidableEq
/-- built-ins by name -/
inductive Bi | len | sum | all | tuple | list | int | str | abs | min | max | sorted
  deriving DecidableEq
/-- methods -/
inductive Me | join | index | upper | strip | lstrip | rstrip | replace | count | find | partition | split | indexT | indexL | countL
  deriving DecidableEq
inductive Tg
  | one (i : Nat)
  | many (is : List Nat)
  deriving DecidableEq

mutual
inductive Ex where
  | omit
  | slot (i : Nat)
  | lit (d : D)
  | glob (k : Nat)
  | fnv (k : Nat)
  | bin (op : BOp) (a b : Ex)
  | neg (a : Ex)
  | cmp (op : COp) (a b : Ex)
  | inR (a b : Ex)
  | chain (o o' : COp) (a b c : Ex)
  | and_ (a b : Ex)
  | or_ (a b : Ex)
  | not_ (a : Ex)
  | ife (c a b : Ex)
  | tup (es : Exs)
  | lst (es : Exs)
  | ix (a i : Ex)
  | sl (a lo hi : Ex)
  | sl2 (a lo hi : Ex)
  | rev (a : Ex)
  | call (f : Nat) (es : Exs)
  | callS (i : Nat) (es : Exs)
  | bi (b : Bi) (es : Exs)
  | rngL (it : It)
  | me (m : Me) (a : Ex) (es : Exs)
  | isi (a : Ex) (t : Ty)
  | comp (elt : Ex) (tg : Tg) (it : It) (cond : Ex) (own : List Nat)
inductive Exs where
  | nil
  | cons (e : Ex) (es : Exs)
inductive It where
  | val (e : Ex)
  | rng1 (a : Ex)
  | rng2 (a b : Ex)
  | rng3 (a b c : Ex)
  | enum (e : Ex)
  | zip (a b : Ex)
end

/-- an except clause's suite -/
inductive Su
  | retC (d : D)
  | retS (i : Nat)
  | appC (i : Nat) (d : D)
  | word (i : Nat)
  | isA (i : Nat) (c : Nat)
mutual
inductive Sm where
  | set (i : Nat) (e : Ex)
  | setM (i : Nat) (e : Ex)
  | unp (is : List Nat) (e : Ex)
  | par (is : List (Nat × Bool)) (es : Exs)
  | app (i : Nat) (e : Ex)
  | ext (i : Nat) (e : Ex)
  | stx (i : Nat) (j e : Ex)
  | frz (i : Nat)
  | ret (e : Ex)
  | retM (i : Nat)
  | exp (e : Ex)
  | rai (c : Nat)
  | wrd
  | pass
  | ite (c : Ex) (a b : Sms)
  | for_ (tg : Tg) (it : It) (b : Sms)
  | while_ (n : Nat) (c : Ex) (b : Sms)
  | try_ (b : Sms) (hs : List (Nat × Option Nat × Su))
inductive Sms where
  | nil
  | cons (s : Sm) (ss : Sms)
end

/-! ### operations -/
def lim : Nat := 16777216
mutual
/-- the depth is at most n, and nothing but data is in it -/
def datN : Nat → D → Bool
  | _, .non => true
  | _, .bl _ => true
  | _, .int _ => true
  | _, .str _ => true
  | 0, .tup _ => false
  | n + 1, .tup xs => datL n xs
  | 0, .lst _ => false
  | n + 1, .lst xs => datL n xs
  | _, .frz _ => false
  | _, .fn _ => false
def datL : Nat → List D → Bool
  | _, [] => true
  | n, x :: xs => datN n x && datL n xs
end
def dat (d : D) : Bool := datN 60 d
mutual
def eqD : D → D → Bool
  | .non, .non => true
  | .bl a, .bl b => a == b
  | .bl a, .int j => (if a then 1 else 0) == j
  | .int i, .bl b => i == (if b then 1 else 0)
  | .int i, .int j => i == j
  | .str a, .str b => a == b
  | .tup xs, .tup ys => eqL xs ys
  | .lst xs, .lst ys => eqL xs ys
  | _, _ => false
def eqL : List D → List D → Bool
  | [], [] => true
  | x :: xs, y :: ys => eqD x y && eqL xs ys
  | _, _ => false
end
def intsOf : List D → Option (List Int)
  | [] => some []
  | .int i :: r => (intsOf r).map (i :: ·)
  | _ :: _ => none
def blsOf : List D → Option (List Bool)
  | [] => some []
  | .bl i :: r => (blsOf r).map (i :: ·)
  | _ :: _ => none
def strsOf : List D → Option (List (List Nat))
  | [] => some []
  | .str i :: r => (strsOf r).map (i :: ·)
  | _ :: _ => none
-- how two things that are ints, or tuples of ints and such tuples, stand
mutual
def cmpD : D → D → Option Ordering
  | .int i, .int j => some (compare i j)
  | .tup xs, .tup ys => cmpL xs ys
  | _, _ => none
def cmpL : List D → List D → Option Ordering
  | [], [] => some .eq
  | [], _ :: _ => some .lt
  | _ :: _, [] => some .gt
  | x :: xs, y :: ys => match cmpL xs ys with
    | none => none
    | some r => match cmpD x y with
      | some .eq => some r
      | o => o
end

def addD : D → D → R
  | .int i, .int j => .ok (.int (i + j))
  | .str a, .str b => if a.length + b.length ≤ lim then .ok (.str (a ++ b)) else .bad
  | .tup a, .tup b => if a.length + b.length ≤ lim then .ok (.tup (a ++ b)) else .bad
  | .lst a, .lst b => if a.length + b.length ≤ lim then .ok (.lst (a ++ b)) else .bad
  | _, _ => .bad
def fitI (k : Int) : Bool := decide (-(2 ^ 63) ≤ k) && decide (k < 2 ^ 63)
def rep {α : Type} (k : Nat) (xs : List α) : List α := (List.replicate k xs).flatten
def mulD : D → D → R
  | .int i, .int j => if (-(2 ^ 64) < i ∧ i < 2 ^ 64) ∨ (-(2 ^ 64) < j ∧ j < 2 ^ 64) then .ok (.int (i * j)) else .bad
  | .str a, .int k => if fitI k = true ∧ a.length * k.toNat ≤ lim then .ok (.str (rep k.toNat a)) else .bad
  | .tup a, .int k => if a.isEmpty = false ∧ 2 ≤ k ∧ k ≤ 1000 ∧ a.length ≤ 1000 then .ok (.tup (rep k.toNat a)) else .bad
  | .lst a, .int k => if fitI k = true ∧ a.length * k.toNat ≤ lim then .ok (.lst (rep k.toNat a)) else .bad
  | _, _ => .bad
def binD : BOp → D → D → R
  | .add, a, b => addD a b
  | .sub, .int i, .int j => .ok (.int (i - j))
  | .mul, a, b => mulD a b
  | .fdiv, .int i, .int j => if 0 < j ∧ j < 1073741824 then .ok (.int (i / j)) else .bad
  | .mod, .int i, .int j => if 0 < j then .ok (.int (i % j)) else .bad
  | .pow, .int i, .int j => if 0 ≤ j ∧ j ≤ 1000000 ∧ i.natAbs < 2 ^ 64 then .ok (.int (i ^ j.toNat)) else .bad
  | _, _, _ => .bad
def negD : D → R
  | .int i => .ok (.int (-i))
  | _ => .bad
def anyEq (d : D) (xs : List D) : Bool := xs.any fun z => eqD z d
def inD : D → D → R
  | .str [c], .str z => .ok (.bl (z.contains c))
  | .str _, .str _ => .bad
  | d, .tup xs => if dat d = true ∧ datL 59 xs = true then .ok (.bl (anyEq d xs)) else .bad
  | d, .lst xs => if dat d = true ∧ datL 59 xs = true then .ok (.bl (anyEq d xs)) else .bad
  | _, _ => .bad
def notR : R → R
  | .ok (.bl b) => .ok (.bl (!b))
  | .exc c => .exc c
  | _ => .bad
def isD : D → D → R
  | .bl a, .bl b => .ok (.bl (a == b))
  | .non, .non => .ok (.bl true)
  | .fn _, .non => .bad
  | _, .non => .ok (.bl false)
  | _, _ => .bad
def ordI (p : Int → Int → Bool) : D → D → R
  | .int i, .int j => .ok (.bl (p i j))
  | _, _ => .bad
def ltD (a b : D) : R := if dat a = true ∧ dat b = true then (match cmpD a b with
  | some o => .ok (.bl (o == .lt))
  | none => .bad) else .bad
def geD (a b : D) : R := if dat a = true ∧ dat b = true then (match cmpD a b with
  | some o => .ok (.bl (!(o == .lt)))
  | none => .bad) else .bad
/-- i in range(j) -/
def inRD : D → D → R
  | .int i, .int j => .ok (.bl (decide (0 ≤ i ∧ i < j)))
  | _, _ => .bad
def cmpR : COp → D → D → R
  | .eq, a, b => if dat a = true ∧ dat b = true then .ok (.bl (eqD a b)) else .bad
  | .ne, a, b => if dat a = true ∧ dat b = true then .ok (.bl (!eqD a b)) else .bad
  | .lt, .int i, .int j => .ok (.bl (decide (i < j)))
  | .lt, a, b => ltD a b
  | .le, a, b => ordI (fun i j => decide (i ≤ j)) a b
  | .gt, a, b => ordI (fun i j => decide (j < i)) a b
  | .ge, .int i, .int j => .ok (.bl (decide (j ≤ i)))
  | .ge, a, b => geD a b
  | .isin, a, b => inD a b
  | .notin, a, b => notR (inD a b)
  | .is, a, b => isD a b
  | .isnt, a, b => notR (isD a b)
/-- a value's truth -/
def truD : D → Option Bool
  | .non => some false
  | .bl b => some b
  | .int i => some (i != 0)
  | .str s => some (!s.isEmpty)
  | .tup xs => some (!xs.isEmpty)
  | .lst xs => some (!xs.isEmpty)
  | _ => none
/-- the item at i, from the end too -/
def ixN (n : Nat) (i : Int) : Option Nat := if 0 ≤ i then (if i < n then some i.toNat else none) else if -(n : Int) ≤ i then some (i + n).toNat else none
def atI {α : Type} (xs : List α) (i : Int) : Option α := (ixN xs.length i).bind fun j => xs[j]?
def ixD : D → D → R
  | .tup xs, .int i => match atI xs i with
    | some d => .ok d
    | none => .bad
  | .lst xs, .int i => match atI xs i with
    | some d => .ok d
    | none => .bad
  | .frz xs, .int i => match atI xs i with
    | some d => .ok (.int d)
    | none => .bad
  | .str xs, .int i => match atI xs i with
    | some c => .ok (.str [c])
    | none => .bad
  | _, _ => .bad
/-- a slice's bound -/
def sIx (n d : Nat) : Option Int → Nat
  | none => d
  | some v => if v < 0 then (v + (n : Int)).toNat else min v.toNat n
def cut {α : Type} (xs : List α) (lo hi : Option Int) : List α := (xs.drop (sIx xs.length 0 lo)).take (sIx xs.length xs.length hi - sIx xs.length 0 lo)
/-- every second -/
def half {α : Type} : List α → List α
  | [] => []
  | [x] => [x]
  | x :: _ :: r => x :: half r
def slD (f : {α : Type} → List α → List α) : D → R
  | .tup xs => .ok (.tup (f xs))
  | .lst xs => .ok (.lst (f xs))
  | .str xs => .ok (.str (f xs))
  | _ => .bad
def isO : Ex → Bool
  | .omit => true
  | _ => false
/-- of a tuple alone -/
def slT (f : List D → List D) : D → R
  | .tup xs => .ok (.tup (f xs))
  | _ => .bad
/-- a bound of a slice: none, or an int -/
def bndI (r : R) (f : Option Int → R) : R := match r with
  | .ok (.int i) => f (some i)
  | .exc c => .exc c
  | _ => .bad
def bndD (m : Ex) (r : R) (f : Option Int → R) : R := if isO m = true then f none else bndI r f
def lenD : D → R
  | .str s => .ok (.int s.length)
  | .tup xs => .ok (.int xs.length)
  | .lst xs => .ok (.int xs.length)
  | .frz xs => .ok (.int xs.length)
  | _ => .bad
def itemsD : D → Option (List D)
  | .tup xs => some xs
  | .lst xs => some xs
  | _ => none
def sumD (d : D) : R := match (itemsD d).bind intsOf with
  | some ns => .ok (.int ns.sum)
  | none => .bad
def allD : D → R
  | .lst xs => match blsOf xs with
    | some bs => .ok (.bl (bs.all id))
    | none => .bad
  | _ => .bad
def dig (c : Nat) : Option Int := if 48 ≤ c ∧ c ≤ 57 then some ((c : Int) - 48) else none
def digs : Int → List Nat → Option Int
  | a, [] => some a
  | a, c :: r => match dig c with
    | some d => digs (10 * a + d) r
    | none => none
def intD : D → R
  | .int i => .ok (.int i)
  | .bl b => .ok (.int (if b then 1 else 0))
  | .str (c :: r) => if r.length < 600 then (match digs 0 (c :: r) with
    | some n => .ok (.int n)
    | none => .bad) else .bad
  | _ => .bad
/-- a list sorted: all comparable, either ints or tuples of one or more -/
def leD (a b : D) : Bool := !(cmpD b a == some .lt)
def isIntD : D → Bool
  | .int _ => true
  | _ => false
def isSomeT : D → Bool
  | .tup (_ :: _) => true
  | _ => false
def srtOk (xs : List D) : Bool := (xs.all fun x => xs.all fun y => (cmpD x y).isSome) && (datL 59 xs && (xs.all isIntD || xs.all isSomeT))
def sortD : D → R
  | .lst xs => if srtOk xs = true then .ok (.lst (xs.mergeSort leD)) else .bad
  | _ => .bad
/-- the least, the greatest of some ints -/
def bstI (f : Int → Int → Int) (d : D) : R := match (itemsD d).bind intsOf with
  | some (i :: is) => .ok (.int (is.foldl f i))
  | _ => .bad
/-- the least of a list of tuples -/
def minT : D → R
  | .lst (x :: r) => if srtOk (x :: r) = true then .ok (r.foldl (fun m y => if (cmpD y m == some .lt) = true then y else m) x) else .bad
  | _ => .bad
def minD (d : D) : R := match (itemsD d).bind intsOf with
  | some (i :: is) => .ok (.int (is.foldl min i))
  | some [] => .bad
  | none => minT d
def natDigits (n : Nat) : List Nat := (Nat.toDigits 10 n).map Char.toNat
def strD : D → R
  | .int i => if 0 ≤ i ∧ i < 1000 then .ok (.str (natDigits i.toNat)) else .bad
  | _ => .bad
/-- the first of the least, the greatest -/
def best (p : Ordering) : D → List D → Option D
  | d, [] => (cmpD d d).map fun _ => d
  | d, x :: r => match cmpD x d with
    | some o => if o = p then best p x r else best p d r
    | none => none
def bestD (p : Ordering) : List D → R
  | [.int i, .int j] => .ok (.int (if compare j i = p then j else i))
  | [d] => match itemsD d with
    | some (x :: r) => match best p x r with
      | some y => .ok y
      | none => .bad
    | _ => .bad
  | _ => .bad
def insD (d : D) : List D → Option (List D)
  | [] => some [d]
  | x :: r => match cmpD d x with
    | some .lt => some (d :: x :: r)
    | some _ => (insD d r).map (x :: ·)
    | none => none
def biD : Bi → List D → R
  | .len, [d] => lenD d
  | .sum, [d] => sumD d
  | .all, [d] => allD d
  | .tuple, [.tup xs] => .ok (.tup xs)
  | .tuple, [.lst xs] => .ok (.tup xs)
  | .list, [.tup xs] => .ok (.lst xs)
  | .list, [.lst xs] => .ok (.lst xs)
  | .list, [.str xs] => .ok (.lst (xs.map fun c => .str [c]))
  | .int, [d] => intD d
  | .str, [d] => strD d
  | .abs, [.int i] => .ok (.int (if i < 0 then -i else i))
  | .min, [.int i, .int j] => .ok (.int (if j < i then j else i))
  | .max, [.int i, .int j] => .ok (.int (if j > i then j else i))
  | .min, [d] => minD d
  | .sorted, [d] => sortD d
  | .max, [d] => bstI max d
  | _, _ => .bad
def joinS (z : List Nat) : List (List Nat) → List Nat
  | [] => []
  | [x] => x
  | x :: r => x ++ z ++ joinS z r
def upC (c : Nat) : Option Nat := if c < 97 then some c else if c < 123 then some (c - 32) else if c < 128 then some c else none
def mapO {α β : Type} (f : α → Option β) : List α → Option (List β)
  | [] => some []
  | x :: r => match f x with
    | some y => (mapO f r).map (y :: ·)
    | none => none
def lstripS (z : List Nat) : List Nat → List Nat
  | [] => []
  | c :: r => if z.contains c then lstripS z r else c :: r
def rstripS (z s : List Nat) : List Nat := (lstripS z s.reverse).reverse
def replS (c : Nat) (y : List Nat) : List Nat → List Nat
  | [] => []
  | x :: r => (if x = c then y else [x]) ++ replS c y r
/-- the first place of an equal one -/
def idxD (d : D) (xs : List D) : R := match xs.findIdx? fun z => eqD z d with
  | some j => .ok (.int (j : Nat))
  | none => .bad
/-- t.replace("?", f) -/
def repF (t f : D) : R := match t, f with
  | .str s, .str [z] => if s.length ≤ 1000 ∧ z ≠ 63 then .ok (.str (s.map fun x => if x = 63 then z else x)) else .bad
  | _, _ => .bad
def meD : Me → D → List D → R
  | .join, .str z, [d] => match (itemsD d).bind strsOf with
    | some xs => if (xs.map List.length).sum + z.length * xs.length ≤ lim then .ok (.str (joinS z xs)) else .bad
    | none => .bad
  | .index, .str z, [.str [c]] => if z.contains c then .ok (.int (z.idxOf c)) else .bad
  | .upper, .str s, [] => if s.length ≤ 5592405 then (match mapO upC s with
    | some t => .ok (.str t)
    | none => .bad) else .bad
  | .strip, .str s, [.str z] => .ok (.str (rstripS z (lstripS z s)))
  | .lstrip, .str s, [.str z] => .ok (.str (lstripS z s))
  | .rstrip, .str s, [.str z] => .ok (.str (rstripS z s))
  | .replace, t, [.str [c], f] => if c = 63 then repF t f else .bad
  | .count, .str s, [.str [c]] => .ok (.int (s.count c))
  | .indexT, .tup xs, [d] => if dat d = true ∧ datL 59 xs = true then idxD d xs else .bad
  | .indexL, .lst xs, [d] => if dat d = true ∧ datL 59 xs = true then idxD d xs else .bad
  | .countL, .lst xs, [d] => if dat d = true ∧ datL 59 xs = true then .ok (.int ((xs.countP fun z => eqD z d : Nat) : Int)) else .bad
  | _, _, _ => .bad
/-- where there is such a method -/
def isTupD : D → Bool
  | .tup _ => true
  | _ => false
def isLstD : D → Bool
  | .lst _ => true
  | _ => false
def isStrD : D → Bool
  | .str _ => true
  | _ => false
/-- a method of texts -/
def meS : Me → Bool
  | .indexT => false
  | .indexL => false
  | .countL => false
  | _ => true
def meK (m : Me) (d : D) : Bool := match m with
  | .indexT => isTupD d
  | .indexL => isLstD d
  | .countL => isLstD d
  | _ => isStrD d
def meR (m : Me) (x : D) (r : Rs) : R := if meK m x = true then r.bnd (meD m x) else .bad
def isiD : D → Ty → R
  | .fn _, _ => .bad
  | .frz _, _ => .bad
  | .int _, .int => .ok (.bl true)
  | .int _, .intstr => .ok (.bl true)
  | .bl _, .int => .ok (.bl true)
  | .bl _, .bl => .ok (.bl true)
  | .bl _, .intstr => .ok (.bl true)
  | .str _, .str => .ok (.bl true)
  | .str _, .intstr => .ok (.bl true)
  | .tup _, .tup => .ok (.bl true)
  | _, _ => .ok (.bl false)

/-! ### slots -/
def getS (ρ : En) (i : Nat) : R := match ρ[i]? with
  | some (some (.im d)) => .ok d
  | some (some (.mu xs)) => .okm xs
  | _ => .bad
def putS (ρ : En) (i : Nat) (d : D) : En := ρ.set i (some (.im d))
def putM (ρ : En) (i : Nat) (xs : List D) : En := ρ.set i (some (.mu xs))
def wipeE (ρ : En) : List Nat → En
  | [] => ρ
  | v :: vs => (wipeE ρ vs).set v none
def putL : List Nat → List D → En → Option En
  | [], [], ρ => some ρ
  | i :: is, d :: ds, ρ => putL is ds (putS ρ i d)
  | _, _, _ => none
def bindT : Tg → D → En → Option En
  | .one i, d, ρ => some (putS ρ i d)
  | .many is, .tup xs, ρ => putL is xs ρ
  | .many _, _, _ => none
/-- what is walked -/
inductive Wk where
  | ok (ds : List D)
  | exc (c : Nat)
  | bad
def rngD (lo hi c : Int) : Wk :=
  if 0 < c ∧ c < 1073741824 ∧ -(2 ^ 61) ≤ lo ∧ lo < 2 ^ 61 ∧ -(2 ^ 61) ≤ hi ∧ hi < 2 ^ 61 ∧ hi - lo ≤ lim then
    .ok ((List.range ((hi - lo + c - 1) / c).toNat).map fun k => .int (lo + (k : Nat) * c)) else .bad
def walkD : D → Wk
  | .tup xs => .ok xs
  | .lst xs => .ok xs
  | .str s => .ok (s.map fun c => .str [c])
  | _ => .bad
def enumD : Nat → List D → List D
  | _, [] => []
  | k, x :: r => .tup [.int k, x] :: enumD (k + 1) r
def Wk.enum : Wk → Wk
  | .ok ds => .ok (enumD 0 ds)
  | w => w
def zipD : List D → List D → List D
  | x :: r, y :: t => .tup [x, y] :: zipD r t
  | _, _ => []
/-- both text, both tuples, or both lists -/
def zipW : D → D → Wk
  | .tup xs, .tup ys => .ok (zipD xs ys)
  | .lst xs, .lst ys => .ok (zipD xs ys)
  | .str s, .str t => .ok (zipD (s.map fun c => .str [c]) (t.map fun c => .str [c]))
  | _, _ => .bad
def R.toW (w : Bool) (r : R) (f : D → Wk) : Wk := match r with
  | .ok d => f d
  | .okm xs => if w = true then f (.lst xs) else .bad
  | .exc c => .exc c
  | .bad => .bad
def Wk.bnd (w : Wk) (f : List D → R) : R := match w with
  | .ok ds => f ds
  | .exc c => .exc c
  | .bad => .bad
/-- a op b op' c -/
def chR (o o' : COp) (x y : D) (z : R) : R := (cmpR o x y).bnd fun t => match t with
  | .bl true => z.bnd fun z => cmpR o' y z
  | .bl false => .ok (.bl false)
  | _ => .bad
def andR (x : D) (r : R) : R := match x with
  | .bl true => r
  | .bl false => .ok (.bl false)
  | _ => .bad
def orR (x : D) (r : R) : R := match x with
  | .bl true => .ok (.bl true)
  | .bl false => r
  | _ => .bad
def notD (x : D) : R := match truD x with
  | some t => .ok (.bl (!t))
  | none => .bad
def ifR (x : D) (a b : R) : R := match truD x with
  | some true => a
  | some false => b
  | none => .bad
def consL (r : R) (l : Rs) : Rs := match r with
  | .ok d => (match l with
    | .ok ds => .ok (d :: ds)
    | l => l)
  | .okm _ => .bad
  | .exc c => .exc c
  | .bad => .bad
def consW (r : R) (l : Rs) : Rs := match r with
  | .ok d => (match l with
    | .ok ds => .ok (d :: ds)
    | l => l)
  | .okm xs => (match l with
    | .ok ds => .ok (.lst xs :: ds)
    | l => l)
  | .exc c => .exc c
  | .bad => .bad
def rngW1 : D → Wk
  | .int i => rngD 0 i 1
  | _ => .bad
def rngW2 : D → D → Wk
  | .int i, .int j => rngD i j 1
  | _, _ => .bad
def rngW3 : D → D → D → Wk
  | .int i, .int j, .int k => rngD i j k
  | _, _, _ => .bad
/-- the items of a comprehension: nothing may be raised in it -/
def compL (f : D → Option En) (c : En → R) (e : En → R) : List D → Option (List D)
  | [] => some []
  | x :: r => match f x with
    | none => none
    | some ρ => match c ρ with
      | .ok d => match truD d with
        | some true => (match e ρ with
          | .ok y => (compL f c e r).map (y :: ·)
          | _ => none)
        | some false => compL f c e r
        | none => none
      | _ => none
def optL : Option (List D) → R
  | some ys => .ok (.lst ys)
  | none => .bad

structure Cal where
  glob : Nat → Option D
  call : Nat → List D → R
  word : Nat → Nat → Option (List Nat)
  sub : Nat → Nat → Option Bool
def callSR (C : Cal) (g : D) (r : Rs) : R := match g with
  | .fn f => r.bnd fun ds => C.call f ds
  | _ => .bad
mutual
def ev (C : Cal) : Ex → En → R
  | .omit, _ => .ok (.bl true)
  | .slot i, ρ => getS ρ i
  | .lit d, _ => .ok d
  | .glob k, _ => match C.glob k with
    | some d => .ok d
    | none => .bad
  | .fnv k, _ => .ok (.fn k)
  | .bin op a b, ρ => (ev C a ρ).bnd fun x => (ev C b ρ).bnd fun y => binD op x y
  | .neg a, ρ => (ev C a ρ).bnd fun x => negD x
  | .cmp op a b, ρ => (ev C a ρ).bnd fun x => (ev C b ρ).bnd fun y => cmpR op x y
  | .inR a b, ρ => (ev C a ρ).bnd fun x => (ev C b ρ).bnd fun y => inRD x y
  | .chain o o' a b c, ρ => (ev C a ρ).bnd fun x => (ev C b ρ).bnd fun y => chR o o' x y (ev C c ρ)
  | .and_ a b, ρ => (ev C a ρ).bnd fun x => andR x (ev C b ρ)
  | .or_ a b, ρ => (ev C a ρ).bnd fun x => orR x (ev C b ρ)
  | .not_ a, ρ => (ev C a ρ).bnd notD
  | .ife c a b, ρ => (ev C c ρ).bnd fun x => ifR x (ev C a ρ) (ev C b ρ)
  | .tup es, ρ => (evs C es ρ).bnd fun ds => .ok (.tup ds)
  | .lst es, ρ => (evs C es ρ).bnd fun ds => .ok (.lst ds)
  | .ix a i, ρ => (ev C a ρ).bnd fun x => (ev C i ρ).bnd fun y => ixD x y
  | .sl a lo hi, ρ => (ev C a ρ).bnd fun x => bndD lo (ev C lo ρ) fun l => bndD hi (ev C hi ρ) fun h => slD (fun xs => cut xs l h) x
  | .sl2 a lo hi, ρ => (ev C a ρ).bnd fun x => bndD lo (ev C lo ρ) fun l => bndD hi (ev C hi ρ) fun h => slT (fun xs => half (cut xs l h)) x
  | .rev a, ρ => (ev C a ρ).bnd fun x => slD (fun xs => xs.reverse) x
  | .call f es, ρ => (evs C es ρ).bnd fun ds => C.call f ds
  | .callS i es, ρ => (getS ρ i).bndS fun g => callSR C g (evs C es ρ)
  | .bi b es, ρ => (evw C es ρ).bnd fun ds => biD b ds
  | .rngL it, ρ => (evi C true it ρ).bnd fun ds => .ok (.lst ds)
  | .me m a es, ρ => (ev C a ρ).bnd fun x => meR m x (evw C es ρ)
  | .isi a t, ρ => (ev C a ρ).bnd fun x => isiD x t
  | .comp elt tg it cond own, ρ => (evi C true it ρ).bnd fun ds => optL (compL (fun d => bindT tg d (wipeE ρ own)) (fun ρ => ev C cond ρ) (fun ρ => ev C elt ρ) ds)
/-- arguments that stand by themselves -/
def evs (C : Cal) : Exs → En → Rs
  | .nil, _ => .ok []
  | .cons e es, ρ => consL (ev C e ρ) (evs C es ρ)
/-- arguments of a built-in -/
def evw (C : Cal) : Exs → En → Rs
  | .nil, _ => .ok []
  | .cons e es, ρ => consW (ev C e ρ) (evw C es ρ)
def evi (C : Cal) (w : Bool) : It → En → Wk
  | .val e, ρ => (ev C e ρ).toW w walkD
  | .rng1 a, ρ => (ev C a ρ).toW w rngW1
  | .rng2 a b, ρ => (ev C a ρ).toW w fun x => (ev C b ρ).toW w fun y => rngW2 x y
  | .rng3 a b c, ρ => (ev C a ρ).toW w fun x => (ev C b ρ).toW w fun y => (ev C c ρ).toW w fun z => rngW3 x y z
  | .enum e, ρ => ((ev C e ρ).toW w walkD).enum
  | .zip a b, ρ => (ev C a ρ).toW w fun x => (ev C b ρ).toW w fun y => zipW x y
end

def exsN : Exs → Nat
  | .nil => 0
  | .cons _ es => exsN es + 1
/-! ### statements -/
def putIM (ρ : En) (i : Nat) (m : Bool) (d : D) : Option En := if m = true then (match d with
  | .lst xs => some (putM ρ i xs)
  | _ => none) else some (putS ρ i d)
def parL : List (Nat × Bool) → List D → En → Option En
  | [], [], ρ => some ρ
  | (i, m) :: is, d :: ds, ρ => match putIM ρ i m d with
    | some ρ' => parL is ds ρ'
    | none => none
  | _, _, _ => none
def ofO (o : Option En) : Fl := match o with
  | some ρ => .nx ρ
  | none => .bad
def appF (ρ : En) (i : Nat) (d : D) : Fl := match ρ[i]? with
  | some (some (.mu xs)) => if xs.length < lim then .nx (putM ρ i (xs ++ [d])) else .bad
  | _ => .bad
def frzF (ρ : En) (i : Nat) : Fl := match ρ[i]? with
  | some (some (.mu xs)) => .nx (putS ρ i (.lst xs))
  | _ => .bad
def R.ret (r : R) (ρ : En) : Fl := match r with
  | .ok d => .rt d
  | .okm _ => .bad
  | .exc c => .exc c ρ
  | .bad => .bad
/-- a value that stands by itself, then -/
def R.thn (r : R) (ρ : En) (f : D → Fl) : Fl := match r with
  | .ok d => f d
  | .okm _ => .bad
  | .exc c => .exc c ρ
  | .bad => .bad
def R.thnW (r : R) (ρ : En) (f : D → Fl) : Fl := match r with
  | .ok d => f d
  | .okm xs => f (.lst xs)
  | .exc c => .exc c ρ
  | .bad => .bad
def appG (ρ : En) (i : Nat) (r : R) : Fl := match ρ[i]? with
  | some (some (.mu xs)) => r.thn ρ fun d => if xs.length < lim then .nx (putM ρ i (xs ++ [d])) else .bad
  | _ => .bad
def extG (ρ : En) (i : Nat) (r : R) : Fl := match ρ[i]? with
  | some (some (.mu xs)) => r.thn ρ fun d => (match d with
    | .lst ys => if xs.length + ys.length ≤ lim then .nx (putM ρ i (xs ++ ys)) else .bad
    | _ => .bad)
  | _ => .bad
def stxG (ρ : En) (i : Nat) (d : D) (r : R) : Fl := match ρ[i]? with
  | some (some (.mu xs)) => r.thn ρ fun k => (match k with
    | .int k => (match ixN xs.length k with
      | some m => .nx (putM ρ i (xs.set m d))
      | none => .bad)
    | _ => .bad)
  | _ => .bad
def setMF (ρ : En) (i : Nat) : D → Fl
  | .lst xs => .nx (putM ρ i xs)
  | _ => .bad
def unpF (ρ : En) (is : List Nat) : D → Fl
  | .tup xs => ofO (putL is xs ρ)
  | _ => .bad
def retF (ρ : En) (i : Nat) : Fl := match ρ[i]? with
  | some (some (.mu xs)) => .rt (.lst xs)
  | _ => .bad
def ifF (d : D) (a b : Fl) : Fl := match truD d with
  | some true => a
  | some false => b
  | none => .bad
def Rs.thn (r : Rs) (ρ : En) (f : List D → Fl) : Fl := match r with
  | .ok d => f d
  | .exc c => .exc c ρ
  | .bad => .bad
def Wk.thn (r : Wk) (ρ : En) (f : List D → Fl) : Fl := match r with
  | .ok d => f d
  | .exc c => .exc c ρ
  | .bad => .bad
def Fl.nxt (r : Fl) (f : En → Fl) : Fl := match r with
  | .nx ρ => f ρ
  | r => r
def forL (f : D → En → Fl) : List D → En → Fl
  | [], ρ => .nx ρ
  | d :: ds, ρ => (f d ρ).nxt fun ρ' => forL f ds ρ'
def whL (c : En → R) (b : En → Fl) : Nat → En → Fl
  | 0, _ => .bad
  | n + 1, ρ => (c ρ).thnW ρ fun d => ifF d ((b ρ).nxt fun ρ' => whL c b n ρ') (.nx ρ)
def suF (C : Cal) (c : Nat) (ρ : En) : Su → Fl
  | .retC d => .rt d
  | .retS i => (getS ρ i).ret ρ
  | .appC i d => appF ρ i d
  | .word i => (match C.word i c with
    | some s => .rt (.str s)
    | none => .bad)
  | .isA _ c' => (match C.sub c c' with
    | some b => .rt (.bl b)
    | none => .bad)
def hdF (C : Cal) (c : Nat) (ρ : En) : List (Nat × Option Nat × Su) → Fl
  | [] => .exc c ρ
  | (c', _, s) :: hs => match C.sub c c' with
    | some true => suF C c ρ s
    | some false => hdF C c ρ hs
    | none => .bad
mutual
def exS (C : Cal) : Sm → En → Fl
  | .set i e, ρ => (ev C e ρ).thn ρ fun d => .nx (putS ρ i d)
  | .setM i e, ρ => (ev C e ρ).thn ρ fun d => setMF ρ i d
  | .unp is e, ρ => (ev C e ρ).thn ρ fun d => unpF ρ is d
  | .par is es, ρ => (evs C es ρ).thn ρ fun ds => ofO (parL is ds ρ)
  | .app i e, ρ => appG ρ i (ev C e ρ)
  | .ext i e, ρ => extG ρ i (ev C e ρ)
  | .stx i j e, ρ => (ev C e ρ).thn ρ fun d => stxG ρ i d (ev C j ρ)
  | .frz i, ρ => frzF ρ i
  | .ret e, ρ => (ev C e ρ).ret ρ
  | .retM i, ρ => retF ρ i
  | .exp e, ρ => (ev C e ρ).thnW ρ fun _ => .nx ρ
  | .rai c, ρ => .exc c ρ
  | .wrd, _ => .bad
  | .pass, ρ => .nx ρ
  | .ite c a b, ρ => (ev C c ρ).thnW ρ fun d => ifF d (exSs C a ρ) (exSs C b ρ)
  | .for_ tg it b, ρ => (evi C false it ρ).thn ρ fun ds => forL (fun d ρ => (ofO (bindT tg d ρ)).nxt (exSs C b)) ds ρ
  | .while_ n c b, ρ => whL (ev C c) (exSs C b) n ρ
  | .try_ b hs, ρ => match exSs C b ρ with
    | .exc c ρ' => hdF C c ρ' hs
    | r => r
def exSs (C : Cal) : Sms → En → Fl
  | .nil, ρ => .nx ρ
  | .cons s ss, ρ => (exS C s ρ).nxt (exSs C ss)
end
structure Fn where
  np : Nat
  ns : Nat
  body : Sms
def callF (C : Cal) (F : Fn) (ds : List D) : R := if ds.length = F.np then (match exSs C F.body (ds.map (fun d => some (.im d)) ++ List.replicate (F.ns - F.np) none) with
  | .nx _ => .ok .non
  | .rt d => .ok d
  | .exc c _ => .exc c
  | .bad => .bad) else .bad
/-- the word of a class of errors -/
def wordF (c : Nat) : List Nat := match c with
  | 1 => [110, 111, 32, 114, 111, 119]
  | 2 => [110, 111, 32, 99, 111, 100, 101]
  | 3 => [100, 111, 117, 98, 116, 102, 117, 108]
  | 4 => [99, 108, 111, 115, 101, 100]
  | 5 => [110, 111, 32, 116, 101, 120, 116]
  | _ => [119, 114, 111, 110, 103]
structure Tab where
  fns : List Fn
  consts : List D
  word : Nat → List Nat
  sub : Nat → Nat → Option Bool
/-- the def that tells errors' words, which is not walked through here -/
def Sms.isW : Sms → Bool
  | .cons .wrd .nil => true
  | _ => false
def Tab.isW (T : Tab) (i : Nat) : Bool := match T.fns[i]? with
  | some F => F.body.isW && F.np == 1
  | none => false
def calT (T : Tab) (call : Nat → List D → R) : Cal := ⟨fun k => T.consts[k]?, call, fun i c => if T.isW i = true then some (T.word c) else none, T.sub⟩
/-- the def that tells the figure that lacks, which is not walked through here: the def it asks, the figures -/
def lakOf : Sms → Option (Nat × Nat)
  | .cons .wrd (.cons (.exp (.call f (.cons (.glob k) .nil))) .nil) => some (f, k)
  | _ => none
/-- [f for f in FIGURES if asked(t.replace("?", f))][0] -/
def lakM (C : Cal) (f k : Nat) (ρ : En) : R :=
  (((R.toW true (match C.glob k with | some (.str s) => R.ok (.str s) | _ => .bad) walkD).bnd fun ds => optL (compL (fun d => bindT (.one 1) d (wipeE ρ [1])) (fun ρ => (consL ((getS ρ 0).bndS fun t => (getS ρ 1).bndS fun z => repF t z) (.ok [])).bnd (C.call f)) (fun ρ => getS ρ 1) ds))).bnd fun x => (R.ok (.int 0)).bnd fun y => ixD x y
def lakR (C : Cal) (F : Fn) (ds : List D) : R := match lakOf F.body, ds with
  | some (f, k), [d] => if F.np = 1 ∧ F.ns = 2 then (match (lakM C f k [some (.im d), none]).ret [] with
    | .rt d => .ok d
    | .exc c _ => .exc c
    | _ => .bad) else .bad
  | _, _ => .bad
def lakT (T : Tab) (C : Cal) (k : Nat) (ds : List D) : R := match T.fns[k]? with
  | some F => lakR C F ds
  | none => .bad
/-- the f-th def called, n calls deep at most; behind all, the defs that want a token -/
def run (T : Tab) : Nat → Nat → List D → R
  | 0, _, _ => .bad
  | n + 1, f, ds => match T.fns[f]? with
    | some F => callF (calT T (run T n)) F ds
    | none => lakT T (calT T (run T n)) (f - T.fns.length) ds
theorem run_fn {T : Tab} {n k : Nat} {F : Fn} {ds : List D} (h : T.fns[k]? = some F) : run T (n + 1) k ds = callF (calT T (run T n)) F ds := by
  show (match T.fns[k]? with
    | some F => callF (calT T (run T n)) F ds
    | none => lakT T (calT T (run T n)) (k - T.fns.length) ds) = _
  rw [h]
theorem run_lak {T : Tab} {n k : Nat} {F : Fn} {ds : List D} (h : T.fns[k]? = some F) : run T (n + 1) (T.fns.length + k) ds = lakR (calT T (run T n)) F ds := by
  show (match T.fns[T.fns.length + k]? with
    | some F => callF (calT T (run T n)) F ds
    | none => lakT T (calT T (run T n)) (T.fns.length + k - T.fns.length) ds) = _
  rw [List.getElem?_eq_none (by omega), Nat.add_sub_cancel_left]
  unfold lakT
  rw [h]
end Dk

/-! Dk1: what stands for what; readings of the evaluator's words over the hand layer. -/
namespace Dk
open PySem PySem.Spec PyProof.Rows L2
abbrev VS := L2.St

def sV (s : List Nat) : Str := ⟨s.toArray⟩
theorem sV_len (s : List Nat) : (sV s).length = s.length := by simp [sV, Str.length]
theorem sV_app (s t : List Nat) : sV (s ++ t) = sV s ++ sV t := by
  show (⟨(s ++ t).toArray⟩ : Str) = ⟨s.toArray ++ t.toArray⟩
  simp
theorem sV_tl (s : List Nat) : (sV s).cps.toList = s := rfl
theorem sV_of (x : Str) : sV x.cps.toList = x := by cases x; rfl
theorem lim_eq : lim = sizeLine := by rw [sizeLine_eq]; rfl

/-- a text as Python has them, not too long -/
structure SOk (s : List Nat) : Prop where
  len : s.length ≤ sizeLine
  ch : ∀ c ∈ s, c < 1114112
theorem SOk.sub {s t : List Nat} (h : SOk s) (hl : t.length ≤ sizeLine) (k : ∀ c ∈ t, c ∈ s) : SOk t := ⟨hl, fun c q => h.ch c (k c q)⟩
theorem SOk.app {s t : List Nat} (h : SOk s) (h2 : SOk t) (hl : (s ++ t).length ≤ sizeLine) : SOk (s ++ t) := ⟨hl, fun c q => (List.mem_append.mp q).elim (h.ch c) (h2.ch c)⟩
/-- the program's facts: its frames, where its defs and its classes of errors stand -/
structure Ge where
  P : Program
  w : World
  K : PySem.W.Frag
  mg : Str → Option Value
  base : Heap
  fa : Nat → Option Addr
  ea : Nat → Addr

mutual
inductive Rep (G : Ge) (H : Hp) : V → D → Prop
  | non : Rep G H .non .non
  | bl (b : Bool) : Rep G H (.bl b) (.bl b)
  | int (i : Int) : Rep G H (.int i) (.int i)
  | str (s : List Nat) : SOk s → Rep G H (.str (sV s)) (.str s)
  | tup {a : Addr} {vs : List V} {ds : List D} : SqT G.K H a vs → vs.length ≤ sizeLine → RepL G H vs ds → Rep G H (.ref a) (.tup ds)
  | lst {a : Addr} {vs : List V} {ds : List D} : H a = some (.lst vs) → vs.length ≤ sizeLine → RepL G H vs ds → Rep G H (.ref a) (.lst ds)
  | frz {a : Addr} {ns : List Int} : SqL G.K H a (ns.map V.int) → ns.length ≤ sizeLine → Rep G H (.ref a) (.frz ns)
  | fn {a : Addr} {k : Nat} : G.fa k = some a → Rep G H (.ref a) (.fn k)
inductive RepL (G : Ge) (H : Hp) : List V → List D → Prop
  | nil : RepL G H [] []
  | cons {v : V} {vs : List V} {d : D} {ds : List D} : Rep G H v d → RepL G H vs ds → RepL G H (v :: vs) (d :: ds)
end
section
variable {G : Ge} {H H' : Hp}
theorem SqT.same {K : PySem.W.Frag} {a : Addr} {xs : List V} (e : Same H H') (h : SqT K H a xs) : SqT K H' a xs := by
  rcases h with (h | ⟨o, h⟩) | h
  · exact .inl (.inl (e _ _ h))
  · exact .inl (.inr ⟨o, e _ _ h⟩)
  · exact .inr h
mutual
theorem Rep.same (e : Same H H') : ∀ (d : D) (v : V), Rep G H v d → Rep G H' v d
  | .non, _, h => by cases h; exact .non
  | .bl b, _, h => by cases h; exact .bl b
  | .int i, _, h => by cases h; exact .int i
  | .str s, _, h => by cases h with | str _ q => exact .str s q
  | .tup ds, _, h => by cases h with | tup h1 h2 h3 => exact .tup (SqT.same e h1) h2 (RepL.same e ds _ h3)
  | .lst ds, _, h => by cases h with | lst h1 h2 h3 => exact .lst (e _ _ h1) h2 (RepL.same e ds _ h3)
  | .frz ns, _, h => by cases h with | frz h1 h2 => exact .frz (e.seq h1) h2
  | .fn k, _, h => by cases h with | fn h1 => exact .fn h1
theorem RepL.same (e : Same H H') : ∀ (ds : List D) (vs : List V), RepL G H vs ds → RepL G H' vs ds
  | [], _, h => by cases h; exact .nil
  | d :: ds, _, h => by cases h with | cons h1 h2 => exact .cons (Rep.same e d _ h1) (RepL.same e ds _ h2)
end
theorem Rep.up {d : D} {v : V} (h : Rep G H v d) (e : Same H H') : Rep G H' v d := Rep.same e d v h
theorem RepL.up {ds : List D} {vs : List V} (h : RepL G H vs ds) (e : Same H H') : RepL G H' vs ds := RepL.same e ds vs h
theorem RepL.length {vs : List V} {ds : List D} : ∀ {vs : List V} {ds : List D}, RepL G H vs ds → vs.length = ds.length
  | _, _, .nil => rfl
  | _, _, .cons _ t => congrArg Nat.succ (RepL.length (vs := []) (ds := []) t)
theorem RepL.len {vs : List V} {ds : List D} (h : RepL G H vs ds) : vs.length = ds.length := RepL.length (vs := []) (ds := []) h
theorem RepL.app : ∀ {vs ws : List V} {ds es : List D}, RepL G H vs ds → RepL G H ws es → RepL G H (vs ++ ws) (ds ++ es)
  | _, _, _, _, .nil, h => h
  | _, _, _, _, .cons h t, h2 => .cons h (RepL.app t h2)
theorem RepL.take : ∀ (n : Nat) {vs : List V} {ds : List D}, RepL G H vs ds → RepL G H (vs.take n) (ds.take n)
  | 0, _, _, _ => .nil
  | _ + 1, _, _, .nil => .nil
  | n + 1, _, _, .cons h t => .cons h (RepL.take n t)
theorem RepL.drop : ∀ (n : Nat) {vs : List V} {ds : List D}, RepL G H vs ds → RepL G H (vs.drop n) (ds.drop n)
  | 0, _, _, h => h
  | _ + 1, _, _, .nil => .nil
  | n + 1, _, _, .cons h t => RepL.drop n t
theorem RepL.rev {vs : List V} {ds : List D} (h : RepL G H vs ds) : RepL G H vs.reverse ds.reverse := by
  induction vs generalizing ds with
  | nil => cases h; exact .nil
  | cons v vs ih =>
    cases h with
    | cons h1 h2 =>
      rw [List.reverse_cons, List.reverse_cons]
      exact RepL.app (ih h2) (.cons h1 .nil)
theorem RepL.half : ∀ {vs : List V} {ds : List D}, RepL G H vs ds → RepL G H (half vs) (half ds)
  | _, _, .nil => .nil
  | _, _, .cons h .nil => .cons h .nil
  | _, _, .cons h (.cons _ t) => .cons h (RepL.half t)
theorem RepL.rep {vs : List V} {ds : List D} (h : RepL G H vs ds) : ∀ k : Nat, RepL G H (List.replicate k vs).flatten (Dk.rep k ds)
  | 0 => .nil
  | k + 1 => by
    show RepL G H (vs ++ (List.replicate k vs).flatten) (ds ++ Dk.rep k ds)
    exact RepL.app h (RepL.rep h k)
theorem RepL.get : ∀ {vs : List V} {ds : List D} {i : Nat} {d : D}, RepL G H vs ds → ds[i]? = some d → ∃ v, vs[i]? = some v ∧ Rep G H v d
  | _, _, _, _, .nil, e => by simp at e
  | _, _, 0, _, .cons h _, e => by simp at e; subst e; exact ⟨_, rfl, h⟩
  | _, _, i + 1, _, .cons _ t, e => by
    obtain ⟨v, h1, h2⟩ := RepL.get (i := i) t (by simpa using e)
    exact ⟨v, by simpa using h1, h2⟩
theorem RepL.set : ∀ {vs : List V} {ds : List D} (i : Nat) {v : V} {d : D}, RepL G H vs ds → Rep G H v d → RepL G H (vs.set i v) (ds.set i d)
  | _, _, _, _, _, .nil, _ => .nil
  | _, _, 0, _, _, .cons _ t, r => .cons r t
  | _, _, i + 1, _, _, .cons h t, r => .cons h (RepL.set i t r)
theorem RepL.nil_iff {vs : List V} {ds : List D} (h : RepL G H vs ds) : vs = [] ↔ ds = [] := by
  cases h <;> simp
theorem RepL.isEmpty {vs : List V} {ds : List D} (h : RepL G H vs ds) : vs.isEmpty = ds.isEmpty := by
  cases h <;> rfl
theorem RepL.ints : ∀ {vs : List V} {ns : List Int}, RepL G H vs (ns.map D.int) → vs = ns.map V.int
  | [], [], _ => rfl
  | _, n :: ns, h => by
    rw [List.map_cons] at h
    cases h with
    | cons h1 h2 =>
      cases h1
      rw [List.map_cons, RepL.ints h2]
  | _ :: _, [], h => by cases h
theorem RepL.bls : ∀ {vs : List V} {ns : List Bool}, RepL G H vs (ns.map D.bl) → vs = ns.map V.bl
  | [], [], _ => rfl
  | _, n :: ns, h => by
    rw [List.map_cons] at h
    cases h with
    | cons h1 h2 =>
      cases h1
      rw [List.map_cons, RepL.bls h2]
  | _ :: _, [], h => by cases h
theorem RepL.strs : ∀ {vs : List V} {ns : List (List Nat)}, RepL G H vs (ns.map D.str) → vs = ns.map (fun s => V.str (sV s))
  | [], [], _ => rfl
  | _, n :: ns, h => by
    rw [List.map_cons] at h
    cases h with
    | cons h1 h2 =>
      cases h1
      rw [List.map_cons, RepL.strs h2]
  | _ :: _, [], h => by cases h
end
theorem intsOf_eq : ∀ {ds : List D} {ns : List Int}, intsOf ds = some ns → ds = ns.map D.int
  | [], ns, h => by
    have : ([] : List Int) = ns := Option.some.inj h
    subst this; rfl
  | d :: ds, ns, h => by
    cases d with
    | int i =>
      have h' : (intsOf ds).map (i :: ·) = some ns := h
      obtain ⟨m, h1, rfl⟩ := Option.map_eq_some_iff.mp h'
      rw [List.map_cons, intsOf_eq h1]
    | _ => cases h
theorem blsOf_eq : ∀ {ds : List D} {ns : List Bool}, blsOf ds = some ns → ds = ns.map D.bl
  | [], ns, h => by
    have : ([] : List Bool) = ns := Option.some.inj h
    subst this; rfl
  | d :: ds, ns, h => by
    cases d with
    | bl i =>
      have h' : (blsOf ds).map (i :: ·) = some ns := h
      obtain ⟨m, h1, rfl⟩ := Option.map_eq_some_iff.mp h'
      rw [List.map_cons, blsOf_eq h1]
    | _ => cases h
theorem strsOf_eq : ∀ {ds : List D} {ns : List (List Nat)}, strsOf ds = some ns → ds = ns.map D.str
  | [], ns, h => by
    have : ([] : List (List Nat)) = ns := Option.some.inj h
    subst this; rfl
  | d :: ds, ns, h => by
    cases d with
    | str i =>
      have h' : (strsOf ds).map (i :: ·) = some ns := h
      obtain ⟨m, h1, rfl⟩ := Option.map_eq_some_iff.mp h'
      rw [List.map_cons, strsOf_eq h1]
    | _ => cases h

/-! ### the solid part of a heap: all but the lists that some name holds to be changed -/
open Classical in
noncomputable def sol (H : Hp) (F : Addr → Prop) : Hp := fun a => if F a then none else H a
section
variable {H H' : Hp} {F F' : Addr → Prop} {a : Addr} {o : HO}
theorem sol_at (h : ¬ F a) : sol H F a = H a := by unfold sol; rw [if_neg h]
theorem sol_in (h : F a) : sol H F a = none := by unfold sol; rw [if_pos h]
theorem sol_of (h : sol H F a = some o) : ¬ F a ∧ H a = some o := by
  by_cases f : F a
  · rw [sol_in f] at h; cases h
  · rw [sol_at f] at h; exact ⟨f, h⟩
theorem sol_le : Same (sol H F) H := fun _ _ h => (sol_of h).2
theorem sol_up (e : Same H H') : Same (sol H F) (sol H' F) := fun a o h => by
  obtain ⟨f, h⟩ := sol_of h
  rw [sol_at f]; exact e _ _ h
theorem sol_anti (e : ∀ a, F' a → F a) : Same (sol H F) (sol H F') := fun a o h => by
  obtain ⟨f, h⟩ := sol_of h
  rw [sol_at fun z => f (e _ z)]; exact h
theorem same_upd {p : Addr} (h : H p = none) : Same H (upd H p o) := fun b x e => by rw [upd_ne (ne_of_none e h)]; exact e
theorem Same.none {p : Addr} (e : Same H H') (h : H' p = none) : H p = none := e.free h
end

/-! ### slots -/
/-- a list that a name holds to be changed -/
def RepM (G : Ge) (F : Addr → Prop) (H : Hp) (v : V) (xs : List D) : Prop := ∃ a vs, v = .ref a ∧ F a ∧ H a = some (.lst vs) ∧ vs.length ≤ sizeLine ∧ RepL G (sol H F) vs xs
def RepS (G : Ge) (F : Addr → Prop) (H : Hp) (v : V) : Sl → Prop
  | .im d => Rep G (sol H F) v d
  | .mu xs => RepM G F H v xs
/-- for an operator: either of them -/
def RepW (G : Ge) (F : Addr → Prop) (H : Hp) (v : V) (d : D) : Prop := Rep G (sol H F) v d ∨ ∃ xs, d = .lst xs ∧ RepM G F H v xs
structure EnvE (G : Ge) (F : Addr → Prop) (ρ : En) (σ : VS) (H : Hp) : Prop where
  slot : ∀ (i : Nat) (s : Sl), ρ[i]? = some (some s) → ∃ v, σ[i]? = some (some v) ∧ RepS G F H v s
  dom : ∀ a, F a → ∃ o, H a = some o
  len : ρ.length = σ.length
section
variable {G : Ge} {F : Addr → Prop} {H H' : Hp} {v : V} {d : D} {xs : List D} {ρ : En} {σ : VS}
theorem RepM.up (h : RepM G F H v xs) (e : Same H H') : RepM G F H' v xs := by
  obtain ⟨a, vs, h1, h2, h3, h4, h5⟩ := h
  exact ⟨a, vs, h1, h2, e _ _ h3, h4, h5.up (sol_up e)⟩
theorem RepW.up (h : RepW G F H v d) (e : Same H H') : RepW G F H' v d := by
  rcases h with h | ⟨xs, h1, h2⟩
  · exact .inl (h.up (sol_up e))
  · exact .inr ⟨xs, h1, h2.up e⟩
theorem RepS.up : ∀ {s : Sl}, RepS G F H v s → Same H H' → RepS G F H' v s
  | .im d, h, e => Rep.up (d := d) h (sol_up e)
  | .mu xs, h, e => RepM.up h e
theorem EnvE.up (h : EnvE G F ρ σ H) (e : Same H H') : EnvE G F ρ σ H' :=
  ⟨fun i s q => let ⟨v, h1, h2⟩ := h.slot i s q; ⟨v, h1, h2.up e⟩, fun a q => let ⟨o, h1⟩ := h.dom a q; ⟨o, e _ _ h1⟩, h.len⟩
/-- a value, in the heap as it is -/
theorem RepM.full (h : RepM G F H v xs) : Rep G H v (.lst xs) := by
  obtain ⟨a, vs, rfl, h2, h3, h4, h5⟩ := h
  exact .lst h3 h4 (h5.up sol_le)
theorem RepW.full (h : RepW G F H v d) : Rep G H v d := by
  rcases h with h | ⟨xs, rfl, h2⟩
  · exact h.up sol_le
  · exact h2.full
/-- a list's, a tuple's items are solid -/
theorem RepW.lst (h : RepW G F H v (.lst xs)) : ∃ a vs, v = .ref a ∧ H a = some (.lst vs) ∧ vs.length ≤ sizeLine ∧ RepL G (sol H F) vs xs := by
  rcases h with h | ⟨ys, e, h2⟩
  · cases h with | lst h1 h2 h3 => exact ⟨_, _, rfl, (sol_of h1).2, h2, h3⟩
  · cases e
    obtain ⟨a, vs, h1, _, h3, h4, h5⟩ := h2
    exact ⟨a, vs, h1, h3, h4, h5⟩
theorem RepW.tup (h : RepW G F H v (.tup xs)) : ∃ a vs, v = .ref a ∧ SqT G.K H a vs ∧ vs.length ≤ sizeLine ∧ RepL G (sol H F) vs xs ∧ Rep G (sol H F) v (.tup xs) := by
  rcases h with h | ⟨ys, e, h2⟩
  · cases h with | tup h1 h2 h3 => exact ⟨_, _, rfl, SqT.same sol_le h1, h2, h3, .tup h1 h2 h3⟩
  · cases e
theorem RepW.int {i : Int} (h : RepW G F H v (.int i)) : v = .int i := by
  rcases h with h | ⟨ys, e, h2⟩
  · cases h; rfl
  · cases e
theorem RepW.bl {i : Bool} (h : RepW G F H v (.bl i)) : v = .bl i := by
  rcases h with h | ⟨ys, e, h2⟩
  · cases h; rfl
  · cases e
theorem RepW.non (h : RepW G F H v .non) : v = .non := by
  rcases h with h | ⟨ys, e, h2⟩
  · cases h; rfl
  · cases e
theorem RepW.str {s : List Nat} (h : RepW G F H v (.str s)) : v = .str (sV s) ∧ SOk s := by
  rcases h with h | ⟨ys, e, h2⟩
  · cases h with | str _ q => exact ⟨rfl, q⟩
  · cases e
theorem RepW.frz {ns : List Int} (h : RepW G F H v (.frz ns)) : ∃ a, v = .ref a ∧ SqL G.K H a (ns.map V.int) ∧ ns.length ≤ sizeLine := by
  rcases h with h | ⟨ys, e, h2⟩
  · cases h with | frz h1 h2 => exact ⟨_, rfl, Same.seq sol_le h1, h2⟩
  · cases e
end
/-- several for an operator -/
inductive RepWs (G : Ge) (F : Addr → Prop) (H : Hp) : List V → List D → Prop
  | nil : RepWs G F H [] []
  | cons {v : V} {vs : List V} {d : D} {ds : List D} : RepW G F H v d → RepWs G F H vs ds → RepWs G F H (v :: vs) (d :: ds)
theorem RepWs.up {G : Ge} {F : Addr → Prop} {H H' : Hp} : ∀ {vs : List V} {ds : List D}, RepWs G F H vs ds → Same H H' → RepWs G F H' vs ds
  | _, _, .nil, _ => .nil
  | _, _, .cons h t, e => .cons (h.up e) (RepWs.up t e)
theorem RepL.ws {G : Ge} {F : Addr → Prop} {H : Hp} : ∀ {vs : List V} {ds : List D}, RepL G (sol H F) vs ds → RepWs G F H vs ds
  | _, _, .nil => .nil
  | _, _, .cons h t => .cons (.inl h) (RepL.ws t)

/-! ### what is wanted behind an expression -/
def Post (G : Ge) (F : Addr → Prop) (W : WX) (σ : VS) (H : Hp) (Q : VK) : R → Prop
  | .ok d => ∀ v H', Same H H' → Rep G (sol H' F) v d → Q v H'
  | .okm xs => ∀ v H', Same H H' → RepM G F H' v xs → Q v H'
  | .exc c => ∀ H', Same H H' → W (.ref (G.ea c)) none σ H'
  | .bad => False
def PostT (G : Ge) (F : Addr → Prop) (W : WX) (σ : VS) (H : Hp) (Q : Bool → Hp → Prop) : R → Prop
  | .ok d => ∃ b, truD d = some b ∧ ∀ H', Same H H' → Q b H'
  | .okm xs => ∀ H', Same H H' → Q (!xs.isEmpty) H'
  | .exc c => ∀ H', Same H H' → W (.ref (G.ea c)) none σ H'
  | .bad => False
def PostL (G : Ge) (F : Addr → Prop) (W : WX) (σ : VS) (H : Hp) (Q : List V → Hp → Prop) : Rs → Prop
  | .ok ds => ∀ vs H', Same H H' → RepL G (sol H' F) vs ds → Q vs H'
  | .exc c => ∀ H', Same H H' → W (.ref (G.ea c)) none σ H'
  | .bad => False
def PostW (G : Ge) (F : Addr → Prop) (W : WX) (σ : VS) (H : Hp) (Q : List V → Hp → Prop) : Rs → Prop
  | .ok ds => ∀ vs H', Same H H' → RepWs G F H' vs ds → Q vs H'
  | .exc c => ∀ H', Same H H' → W (.ref (G.ea c)) none σ H'
  | .bad => False
section
variable {G : Ge} {F : Addr → Prop} {W : WX} {σ : VS} {H H' : Hp} {Q : VK}
theorem Post.up : ∀ {r : R}, Post G F W σ H Q r → Same H H' → Post G F W σ H' Q r
  | .ok _, h, e => fun v H2 e2 q => h v H2 (e.trans e2) q
  | .okm _, h, e => fun v H2 e2 q => h v H2 (e.trans e2) q
  | .exc _, h, e => fun H2 e2 => h H2 (e.trans e2)
  | .bad, h, _ => h
theorem PostT.up {Q : Bool → Hp → Prop} : ∀ {r : R}, PostT G F W σ H Q r → Same H H' → PostT G F W σ H' Q r
  | .ok _, ⟨b, h1, h⟩, e => ⟨b, h1, fun H2 e2 => h H2 (e.trans e2)⟩
  | .okm _, h, e => fun H2 e2 => h H2 (e.trans e2)
  | .exc _, h, e => fun H2 e2 => h H2 (e.trans e2)
  | .bad, h, _ => h
theorem PostL.up {Q : List V → Hp → Prop} : ∀ {r : Rs}, PostL G F W σ H Q r → Same H H' → PostL G F W σ H' Q r
  | .ok _, h, e => fun v H2 e2 q => h v H2 (e.trans e2) q
  | .exc _, h, e => fun H2 e2 => h H2 (e.trans e2)
  | .bad, h, _ => h
theorem PostW.up {Q : List V → Hp → Prop} : ∀ {r : Rs}, PostW G F W σ H Q r → Same H H' → PostW G F W σ H' Q r
  | .ok _, h, e => fun v H2 e2 q => h v H2 (e.trans e2) q
  | .exc _, h, e => fun H2 e2 => h H2 (e.trans e2)
  | .bad, h, _ => h
/-- a value that comes to r, handed to an operator -/
theorem Post.w {r : R} {op : D → R} (h : Post G F W σ H Q (r.bnd op)) (K : VK) (k : ∀ d v H', Same H H' → RepW G F H' v d → Post G F W σ H' Q (op d) → K v H') : Post G F W σ H K r := by
  cases r with
  | ok d => exact fun v H' e q => k d v H' e (.inl q) (Post.up (r := op d) h e)
  | okm xs => exact fun v H' e q => k (.lst xs) v H' e (.inr ⟨xs, rfl, q⟩) (Post.up (r := op (.lst xs)) h e)
  | exc c => exact h
  | bad => exact h
end

/-! ### readings -/
/-- the expression comes to m of the slots -/
def tE (G : Ge) (W : WX) (m : En → R) : TE := fun σ H Q => ∃ F ρ, EnvE G F ρ σ H ∧ Post G F W σ H Q (m ρ)
def tT (G : Ge) (W : WX) (m : En → R) : TT := fun σ H Q => ∃ F ρ, EnvE G F ρ σ H ∧ PostT G F W σ H Q (m ρ)
def tAs (G : Ge) (W : WX) (m : En → Rs) : TA := fun σ H Q => ∃ F ρ, EnvE G F ρ σ H ∧ PostL G F W σ H Q (m ρ)
def tAw (G : Ge) (W : WX) (m : En → Rs) : TA := fun σ H Q => ∃ F ρ, EnvE G F ρ σ H ∧ PostW G F W σ H Q (m ρ)
theorem PE.imp {X : L2.Cx} {e : Expr} {t t' : TE} (h : PE X e t) (k : ∀ σ H Q, t' σ H Q → t σ H Q) : PE X e t' := ⟨fun pins s σ H Q I q => h.run pins s σ H Q I (k σ H Q q)⟩
theorem PT.imp {X : L2.Cx} {e : Expr} {t t' : TT} (h : PT X e t) (k : ∀ σ H Q, t' σ H Q → t σ H Q) : PT X e t' := ⟨fun pins s σ H Q I q => h.run pins s σ H Q I (k σ H Q q)⟩
theorem PA.imp {X : L2.Cx} {e : List Expr} {t t' : TA} (h : PA X e t) (k : ∀ σ H Q, t' σ H Q → t σ H Q) : PA X e t' := ⟨fun pos pins s σ H Q I q => h.run pos pins s σ H Q I (k σ H Q q)⟩
theorem PS.imp {X : L2.Cx} {e : Stmt} {t t' : TS} (h : PS X e t) (k : ∀ D σ H, t' D σ H → t D σ H) : PS X e t' := ⟨fun pins s σ H Q I q => h.run pins s σ H Q I (k Q σ H q)⟩
theorem PSs.imp {X : L2.Cx} {e : List Stmt} {t t' : TS} (h : PSs X e t) (k : ∀ D σ H, t' D σ H → t D σ H) : PSs X e t' := ⟨fun pins s σ H Q I q => h.run pins s σ H Q I (k Q σ H q)⟩
section
variable {G : Ge} {W : WX}
/-- one operand -/
theorem tE.un {m : En → R} {op : D → R} {r : V → Hp → VK → Prop} (ok : ∀ F H v d σ Q, RepW G F H v d → (∀ a, F a → ∃ o, H a = some o) → Post G F W σ H Q (op d) → r v H Q) (σ : VS) (H : Hp) (Q : VK) (h : tE G W (fun ρ => (m ρ).bnd op) σ H Q) :
    tUn r (tE G W m) σ H Q := by
  obtain ⟨F, ρ, E, p⟩ := h
  exact ⟨F, ρ, E, Post.w p _ fun d v H' e q p' => ok F H' v d σ Q q (E.up e).dom p'⟩
/-- two -/
theorem tE.bin {a b : En → R} {op : D → D → R} {r : R2} (ok : ∀ F H v u d d' σ Q, RepW G F H v d → RepW G F H u d' → (∀ a, F a → ∃ o, H a = some o) → Post G F W σ H Q (op d d') → r v u H Q) (σ : VS) (H : Hp) (Q : VK)
    (h : tE G W (fun ρ => (a ρ).bnd fun x => (b ρ).bnd fun y => op x y) σ H Q) : tOp r (tE G W a) (tE G W b) σ H Q := by
  obtain ⟨F, ρ, E, p⟩ := h
  refine ⟨F, ρ, E, Post.w p _ fun d v H' e q p' => ⟨F, ρ, E.up e, Post.w p' _ fun d' u H2 e2 q2 p2 => ?_⟩⟩
  exact ok F H2 v u d d' σ Q (q.up e2) q2 (E.up (e.trans e2)).dom p2
end
end Dk

/-! Dk2: operators of two values. -/
namespace Dk
open PySem PySem.Spec PyProof.Rows L2
section
variable {G : Ge} {F : Addr → Prop} {H : Hp} {v u : V} {d d' : D} {p : Addr}
theorem off (dom : ∀ a, F a → ∃ o, H a = some o) (hp : H p = none) : ¬ F p := fun f => by
  obtain ⟨o, e⟩ := dom p f
  rw [hp] at e; cases e
theorem new_tup {vs : List V} {ds : List D} (dom : ∀ a, F a → ∃ o, H a = some o) (hp : H p = none) (hl : vs.length ≤ sizeLine) (r : RepL G (sol H F) vs ds) : Rep G (sol (upd H p (.tup vs)) F) (.ref p) (.tup ds) :=
  .tup (.inl (.inl (by rw [sol_at (off dom hp), upd_same]))) hl (r.up (sol_up (same_upd hp)))
theorem new_lst {vs : List V} {ds : List D} (dom : ∀ a, F a → ∃ o, H a = some o) (hp : H p = none) (hl : vs.length ≤ sizeLine) (r : RepL G (sol H F) vs ds) : Rep G (sol (upd H p (.lst vs)) F) (.ref p) (.lst ds) :=
  .lst (by rw [sol_at (off dom hp), upd_same]) hl (r.up (sol_up (same_upd hp)))
end
theorem Post.ok {G : Ge} {F : Addr → Prop} {W : WX} {σ : VS} {H : Hp} {Q : VK} {d : D} {v : V} (h : Post G F W σ H Q (.ok d)) (r : Rep G (sol H F) v d) : Q v H := h v H (Same.refl H) r
theorem Post.ok' {G : Ge} {F : Addr → Prop} {W : WX} {σ : VS} {H : Hp} {Q : VK} {d : D} {v : V} {r : R} (h : Post G F W σ H Q r) (e : r = .ok d) (k : Rep G (sol H F) v d) : Q v H := by
  subst e
  exact h v H (Same.refl H) k
theorem if_ok {c : Prop} [Decidable c] {r : R} {P : R → Prop} (h : P (if c then r else .bad)) (n : ¬ P .bad) : c ∧ P r := by
  by_cases z : c
  · rw [if_pos z] at h; exact ⟨z, h⟩
  · rw [if_neg z] at h; exact absurd h n

section
variable {X : L2.Cx} {G : Ge} {W : WX}
/-! ### + -/
def rAdd : R2 := fun x y H Q => rI0 (fun i j => .int (i + j)) x y H Q ∨ (∃ i j, x = .str i ∧ y = .str j ∧ i.length + j.length ≤ sizeLine ∧ Q (.str (i ++ j)) H) ∨ rCatA X.K x y H Q ∨ rCat x y H Q
theorem op_addD : OpR X (binaryOp .Add) (rAdd (X := X)) := op_add.or (op_add_str.or (op_catA.or op_cat))
theorem ok_add (hK : X.K = G.K) (F : Addr → Prop) (H : Hp) (v u : V) (d d' : D) (σ : VS) (Q : VK) (r1 : RepW G F H v d) (r2 : RepW G F H u d') (dom : ∀ a, F a → ∃ o, H a = some o) (h : Post G F W σ H Q (addD d d')) : rAdd (X := X) v u H Q := by
  unfold addD at h
  split at h
  · rename_i i j
    exact .inl ⟨i, j, r1.int, r2.int, h.ok (.int _)⟩
  · rename_i a b
    obtain ⟨z, h⟩ := if_ok h (fun z => z)
    obtain ⟨e1, l1⟩ := r1.str
    obtain ⟨e2, l2⟩ := r2.str
    rw [lim_eq] at z
    refine .inr (.inl ⟨_, _, e1, e2, by rw [sV_len, sV_len]; exact z, ?_⟩)
    rw [← sV_app]
    exact h.ok (.str _ (l1.app l2 (by rw [List.length_append]; exact z)))
  · rename_i a b
    obtain ⟨z, h⟩ := if_ok h (fun z => z)
    rw [lim_eq] at z
    obtain ⟨a1, v1, e1, s1, l1, q1, w1⟩ := r1.tup
    obtain ⟨a2, v2, e2, s2, l2, q2, w2⟩ := r2.tup
    subst e1 e2
    refine .inr (.inr (.inl ⟨a1, a2, v1, v2, rfl, rfl, by rw [hK]; exact s1, by rw [hK]; exact s2, by rw [q1.len, q2.len]; exact z, fun e => ?_, fun _ e => ?_, fun _ _ p hp => ?_⟩))
    · have := q1.nil_iff.mp e
      subst this
      exact h.ok w2
    · have := q2.nil_iff.mp e
      subst this
      rw [List.append_nil] at h
      exact h.ok w1
    · exact h _ _ (same_upd hp) (new_tup dom hp (by rw [List.length_append, q1.len, q2.len]; exact z) (q1.app q2))
  · rename_i a b
    obtain ⟨z, h⟩ := if_ok h (fun z => z)
    rw [lim_eq] at z
    obtain ⟨a1, v1, e1, s1, l1, q1⟩ := r1.lst
    obtain ⟨a2, v2, e2, s2, l2, q2⟩ := r2.lst
    subst e1 e2
    refine .inr (.inr (.inr ⟨a1, a2, v1, v2, rfl, rfl, s1, s2, by rw [q1.len, q2.len]; exact z, fun p hp => ?_⟩))
    exact h _ _ (same_upd hp) (new_lst dom hp (by rw [List.length_append, q1.len, q2.len]; exact z) (q1.app q2))
  · exact h.elim

/-! ### * -/
theorem rep_fold (a : Array Nat) : ∀ (m : Nat) (acc : Array Nat), ((List.replicate m a).foldl (fun x y => x ++ y) acc).toList = acc.toList ++ rep m a.toList
  | 0, acc => by simp [rep]
  | m + 1, acc => by
    rw [List.replicate_succ, List.foldl_cons, rep_fold a m]
    simp [rep, List.replicate_succ]
theorem rep_len {α : Type} (k : Nat) (xs : List α) : (rep k xs).length = k * xs.length := by
  unfold rep
  induction k with
  | zero => simp
  | succ k ih => rw [List.replicate_succ, List.flatten_cons, List.length_append, ih, Nat.succ_mul]; omega
theorem rep_one {α : Type} (xs : List α) : rep 1 xs = xs := by simp [rep]
theorem rep_nil {α : Type} (k : Nat) : rep k ([] : List α) = [] := by
  unfold rep
  induction k with
  | zero => rfl
  | succ k ih => rw [List.replicate_succ, List.flatten_cons, ih]; rfl
theorem rep_mem {α : Type} {k : Nat} {xs : List α} {c : α} (h : c ∈ rep k xs) : c ∈ xs := by
  unfold rep at h
  obtain ⟨l, h1, h2⟩ := List.mem_flatten.mp h
  rw [List.mem_replicate] at h1
  rw [← h1.2]; exact h2
def rMulS : R2 := fun x y H Q => ∃ (a : List Nat) (k : Int), x = .str (sV a) ∧ y = .int k ∧ fitI k = true ∧ a.length * k.toNat ≤ lim ∧ Q (.str (sV (rep k.toNat a))) H
theorem op_mulS : OpR X (binaryOp .Mult) rMulS := by
  intro pins s σ H x y v u Q I rx ry h
  obtain ⟨a, k, rfl, rfl, hk, hl, q⟩ := h
  obtain ⟨t, rfl⟩ := rx
  obtain ⟨t', rfl⟩ := ry
  unfold fitI at hk
  rw [Bool.and_eq_true, decide_eq_true_eq, decide_eq_true_eq] at hk
  obtain ⟨k1, k2⟩ := hk
  have hc : (sV a).length = a.length := sV_len a
  rw [lim_eq, sizeLine_eq] at hl
  have fin : ∀ (z : Str) (t : Tok) (n : Nat), z = sV (rep k.toNat a) → EP X pins σ Q (.str z t) { s with toks := n } := fun z t n e => by
    subst e
    exact ⟨.str (sV (rep k.toNat a)), H, I.tok _, ⟨t, rfl⟩, q⟩
  refine PySem.P.mul_str ?_ (fun n1 n2 => ?_) (fun n1 n2 => ?_) ?_
  · rw [decide_eq_false (by omega), decide_eq_false (by omega)] <;> rfl
  · rw [Bool.or_eq_false_iff, beq_eq_false_iff_ne, beq_eq_false_iff_ne, hc] at n2
    rw [hc]
    have h1 : (a.length : Int) * k ≤ 16777216 := by
      have e : ((a.length * k.toNat : Nat) : Int) = (a.length : Int) * k := by
        rw [Int.natCast_mul, Int.toNat_of_nonneg (by omega)]
      omega
    have h2 : (a.length : Int) ≤ (2 ^ 63 - 1) / k := by
      rw [Int.le_ediv_iff_mul_le (by omega)]
      omega
    omega
  · rw [hc]
    unfold Builtin.Str.tooLong
    rw [sizeLine_eq]
    exact decide_eq_false (by omega)
  · split
    · rename_i n1
      have e : k.toNat = 0 := by omega
      exact ⟨by decide, fin _ _ _ (by rw [e]; rfl)⟩
    · split
      · rename_i n1 n2
        refine fin (sV a) t s.toks ?_
        rw [Bool.or_eq_true, beq_iff_eq, beq_iff_eq, hc] at n2
        rcases n2 with n2 | n2
        · subst n2
          rw [show (1 : Int).toNat = 1 from rfl, rep_one]
        · have e : a = [] := List.eq_nil_of_length_eq_zero n2
          rw [e, rep_nil]
      · rename_i n1 n2
        have e : (⟨(List.replicate k.toNat (sV a).cps).foldl (· ++ ·) #[]⟩ : Str) = sV (rep k.toNat a) := by
          have e2 := rep_fold (sV a).cps k.toNat #[]
          have e3 : (sV a).cps.toList = a := rfl
          rw [e3] at e2
          show (⟨_⟩ : Str) = ⟨_⟩
          congr 1
          exact Array.toList_inj.mp (by rw [e2]; simp)
        rw [e]
        refine ⟨?_, fin _ _ _ rfl⟩
        rw [sV_len, rep_len, sizeLine_eq, Nat.mul_comm]
        exact hl
def rMul : R2 := fun x y H Q => rI CMul (fun i j => .int (i * j)) x y H Q ∨ rMulS x y H Q ∨ rRepT X.K x y H Q ∨ rRep x y H Q
theorem op_mulD : OpR X (binaryOp .Mult) (rMul (X := X)) := op_mul.or (op_mulS.or (op_repT.or op_rep))
theorem ok_mul (hK : X.K = G.K) (F : Addr → Prop) (H : Hp) (v u : V) (d d' : D) (σ : VS) (Q : VK) (r1 : RepW G F H v d) (r2 : RepW G F H u d') (dom : ∀ a, F a → ∃ o, H a = some o) (h : Post G F W σ H Q (mulD d d')) : rMul (X := X) v u H Q := by
  unfold mulD at h
  split at h
  · rename_i i j
    obtain ⟨z, h⟩ := if_ok h (fun z => z)
    exact .inl ⟨i, j, r1.int, r2.int, z, h.ok (.int _)⟩
  · rename_i a k
    obtain ⟨z, h⟩ := if_ok h (fun z => z)
    obtain ⟨e1, l1⟩ := r1.str
    refine .inr (.inl ⟨a, k, e1, r2.int, z.1, z.2, h.ok (.str _ (l1.sub ?_ fun c => rep_mem))⟩)
    rw [rep_len, Nat.mul_comm, ← lim_eq]; exact z.2
  · rename_i a k
    obtain ⟨⟨z0, z1, z2, z3⟩, h⟩ := if_ok h (fun z => z)
    obtain ⟨a1, v1, e1, s1, l1, q1, w1⟩ := r1.tup
    subst e1
    refine .inr (.inr (.inl ⟨a1, k, v1, rfl, r2.int, by rw [hK]; exact s1, fun e => ?_, z1, z2, by rw [q1.len]; exact z3, fun p hp => ?_⟩))
    · have := q1.nil_iff.mp e
      subst this
      cases z0
    · refine h _ _ (same_upd hp) (new_tup dom hp ?_ (q1.rep k.toNat))
      rw [PyProof.Rows.lm_len_rep_flat, q1.len, sizeLine_eq]
      have a1 : k.toNat * a.length ≤ 1000 * 1000 := Nat.mul_le_mul (by omega) z3
      omega
  · rename_i a k
    obtain ⟨⟨z0, z1⟩, h⟩ := if_ok h (fun z => z)
    obtain ⟨a1, v1, e1, s1, l1, q1⟩ := r1.lst
    subst e1
    unfold fitI at z0
    rw [Bool.and_eq_true, decide_eq_true_eq, decide_eq_true_eq] at z0
    rw [lim_eq] at z1
    refine .inr (.inr (.inr ⟨a1, k, v1, rfl, r2.int, s1, z0.1, z0.2, by rw [q1.len]; exact z1, fun p hp => ?_⟩))
    refine h _ _ (same_upd hp) (new_lst dom hp ?_ (q1.rep k.toNat))
    rw [PyProof.Rows.lm_len_rep_flat, q1.len, Nat.mul_comm]
    exact z1
  · exact h.elim

/-! ### - // % ** -/
theorem ok_sub (F : Addr → Prop) (H : Hp) (v u : V) (d d' : D) (σ : VS) (Q : VK) (r1 : RepW G F H v d) (r2 : RepW G F H u d') (dom : ∀ a, F a → ∃ o, H a = some o) (h : Post G F W σ H Q (binD .sub d d')) : rI0 (fun i j => .int (i - j)) v u H Q := by
  cases d <;> cases d' <;> first
    | exact (show False from h).elim
    | exact ⟨_, _, r1.int, r2.int, Post.ok (d := .int _) h (.int _)⟩
theorem ok_fdiv (F : Addr → Prop) (H : Hp) (v u : V) (d d' : D) (σ : VS) (Q : VK) (r1 : RepW G F H v d) (r2 : RepW G F H u d') (dom : ∀ a, F a → ∃ o, H a = some o) (h : Post G F W σ H Q (binD .fdiv d d')) : rI CDiv (fun i j => .int (i / j)) v u H Q := by
  cases d <;> cases d' <;> first
    | exact (show False from h).elim
    | skip
  rename_i i j
  obtain ⟨z, h⟩ := if_ok (c := 0 < j ∧ j < 1073741824) (r := .ok (.int (i / j))) (P := Post G F W σ H Q) h (fun z => z)
  exact ⟨i, j, r1.int, r2.int, z, h.ok (.int _)⟩
theorem ok_mod (F : Addr → Prop) (H : Hp) (v u : V) (d d' : D) (σ : VS) (Q : VK) (r1 : RepW G F H v d) (r2 : RepW G F H u d') (dom : ∀ a, F a → ∃ o, H a = some o) (h : Post G F W σ H Q (binD .mod d d')) : rI (fun _ j => 0 < j) (fun i j => .int (i % j)) v u H Q := by
  cases d <;> cases d' <;> first
    | exact (show False from h).elim
    | skip
  rename_i i j
  obtain ⟨z, h⟩ := if_ok (c := 0 < j) (r := .ok (.int (i % j))) (P := Post G F W σ H Q) h (fun z => z)
  exact ⟨i, j, r1.int, r2.int, z, h.ok (.int _)⟩
theorem ok_pow (F : Addr → Prop) (H : Hp) (v u : V) (d d' : D) (σ : VS) (Q : VK) (r1 : RepW G F H v d) (r2 : RepW G F H u d') (dom : ∀ a, F a → ∃ o, H a = some o) (h : Post G F W σ H Q (binD .pow d d')) : rI CPow (fun i j => .int (i ^ j.toNat)) v u H Q := by
  cases d <;> cases d' <;> first
    | exact (show False from h).elim
    | skip
  rename_i i j
  obtain ⟨z, h⟩ := if_ok (c := 0 ≤ j ∧ j ≤ 1000000 ∧ i.natAbs < 2 ^ 64) (r := .ok (.int (i ^ j.toNat))) (P := Post G F W σ H Q) h (fun z => z)
  exact ⟨i, j, r1.int, r2.int, z, h.ok (.int _)⟩
theorem ok_neg (F : Addr → Prop) (H : Hp) (v : V) (d : D) (σ : VS) (Q : VK) (r1 : RepW G F H v d) (dom : ∀ a, F a → ∃ o, H a = some o) (h : Post G F W σ H Q (negD d)) : rU (fun i => .int (-i)) v H Q := by
  unfold negD at h
  split at h
  · exact ⟨_, r1.int, h.ok (.int _)⟩
  · exact h.elim
/-- the operator's own name in the tree -/
def opOf : BOp → Operator
  | .add => .Add | .sub => .Sub | .mul => .Mult | .fdiv => .FloorDiv | .mod => .Mod | .pow => .Pow
theorem pe_bin {a b : Expr} {pos : Pos} {ma mb : En → R} (op : BOp) (hK : X.K = G.K) (ha : PE X a (tE G W ma)) (hb : PE X b (tE G W mb)) : PE X (.BinOp a (opOf op) b pos) (tE G W fun ρ => (ma ρ).bnd fun x => (mb ρ).bnd fun y => binD op x y) := by
  cases op with
  | add => exact PE.imp (pe_op op_addD ha hb) (tE.bin fun F H v u d d' σ Q r1 r2 dom h => ok_add hK F H v u d d' σ Q r1 r2 dom h)
  | mul => exact PE.imp (pe_op op_mulD ha hb) (tE.bin fun F H v u d d' σ Q r1 r2 dom h => ok_mul hK F H v u d d' σ Q r1 r2 dom h)
  | sub => exact PE.imp (pe_op op_sub ha hb) (tE.bin ok_sub)
  | fdiv => exact PE.imp (pe_op op_fdiv ha hb) (tE.bin ok_fdiv)
  | mod => exact PE.imp (pe_op op_mod ha hb) (tE.bin ok_mod)
  | pow => exact PE.imp (pe_op op_pow ha hb) (tE.bin ok_pow)
theorem pe_neg {a : Expr} {pos : Pos} {ma : En → R} (ha : PE X a (tE G W ma)) : PE X (.UnaryOp .USub a pos) (tE G W fun ρ => (ma ρ).bnd fun x => negD x) := PE.imp (pe_un un_neg ha) (tE.un ok_neg)
end
end Dk

/-! Dk3: comparisons, tests. -/
namespace Dk
open PySem PySem.Spec PyProof.Rows L2
/-! ### data as the library has it -/
mutual
def toP : D → PyData
  | .non => .none
  | .bl b => .bool b
  | .int i => .int i
  | .str s => .str (sV s)
  | .tup xs => .tuple (toPs xs)
  | .lst xs => .list (toPs xs)
  | .frz _ => .none
  | .fn _ => .none
def toPs : List D → List PyData
  | [] => []
  | x :: xs => toP x :: toPs xs
end
theorem toPs_map : ∀ xs : List D, toPs xs = xs.map toP
  | [] => rfl
  | x :: xs => by rw [toPs, toPs_map xs, List.map_cons]
section
variable {G : Ge} {H : Hp}
theorem strOk_of {s : List Nat} (h : SOk s) : PyData.strOk (sV s) = true := by
  unfold PyData.strOk
  rw [← Array.all_toList]
  exact List.all_eq_true.mpr fun c q => decide_eq_true (h.ch c q)
mutual
theorem Rep.dp : ∀ (d : D) (n : Nat) (v : V), Rep G H v d → datN n d = true → Dp G.K H v (toP d) ∧ (toP d).canLay0 = true ∧ (toP d).depth ≤ n
  | .non, n, _, h, _ => by cases h; exact ⟨.non, by simp [toP, PyData.canLay0], by simp [toP, PyData.depth]⟩
  | .bl b, n, _, h, _ => by cases h; exact ⟨.bl b, by simp [toP, PyData.canLay0], by simp [toP, PyData.depth]⟩
  | .int i, n, _, h, _ => by cases h; exact ⟨.int i, by simp [toP, PyData.canLay0], by simp [toP, PyData.depth]⟩
  | .str s, n, _, h, _ => by
    cases h with
    | str _ q => exact ⟨.str _, by simp [toP, PyData.canLay0, strOk_of q], by simp [toP, PyData.depth]⟩
  | .tup ds, 0, _, h, k => by simp [datN] at k
  | .tup ds, n + 1, _, h, k => by
    cases h with
    | tup h1 h2 h3 =>
      obtain ⟨a, b, c⟩ := RepL.dp ds n _ h3 (by simpa [datN] using k)
      exact ⟨.tup h1 a, by simpa [toP, PyData.canLay0] using b, by simp only [toP, PyData.depth]; omega⟩
  | .lst ds, 0, _, h, k => by simp [datN] at k
  | .lst ds, n + 1, _, h, k => by
    cases h with
    | lst h1 h2 h3 =>
      obtain ⟨a, b, c⟩ := RepL.dp ds n _ h3 (by simpa [datN] using k)
      exact ⟨.lst (.inl (.inl h1)) a, by simpa [toP, PyData.canLay0] using b, by simp only [toP, PyData.depth]; omega⟩
  | .frz _, n, _, h, k => by simp [datN] at k
  | .fn _, n, _, h, k => by simp [datN] at k
theorem RepL.dp : ∀ (ds : List D) (n : Nat) (vs : List V), RepL G H vs ds → datL n ds = true → DpAll G.K H vs (toPs ds) ∧ PyData.canLayAll0 (toPs ds) = true ∧ PyData.depthAll (toPs ds) ≤ n
  | [], n, _, h, _ => by cases h; exact ⟨.nil, by simp [toPs, PyData.canLayAll0], by simp [toPs, PyData.depthAll]⟩
  | d :: ds, n, _, h, k => by
    cases h with
    | cons h1 h2 =>
      have k' : datN n d = true ∧ datL n ds = true := by simpa [datL] using k
      obtain ⟨a, b, c⟩ := Rep.dp d n _ h1 k'.1
      obtain ⟨a', b', c'⟩ := RepL.dp ds n _ h2 k'.2
      exact ⟨.cons a a', by simp [toPs, PyData.canLayAll0, b, b'], by simp only [toPs, PyData.depthAll]; omega⟩
end
theorem Rep.data {d : D} {v : V} (h : Rep G H v d) (k : dat d = true) : Dp G.K H v (toP d) ∧ SeqAt.shaped (toP d) = true := by
  obtain ⟨a, b, c⟩ := Rep.dp d 60 v h k
  refine ⟨a, ?_⟩
  unfold SeqAt.shaped
  rw [b, decide_eq_true (by omega)] <;> rfl
end
theorem str_beq (s t : List Nat) : (sV s == sV t) = (s == t) := by
  rw [Bool.eq_iff_iff, beq_iff_eq, beq_iff_eq]
  constructor
  · intro e
    have := congrArg (fun x : Str => x.cps.toList) e
    exact this
  · intro e; rw [e]
mutual
theorem eqv_toP : ∀ (d e : D) (n m : Nat), datN n d = true → datN m e = true → PyData.eqv (toP d) (toP e) = eqD d e
  | .non, e, n, m, _, k => by cases e <;> first | (simp [toP, PyData.eqv, eqD]; done) | (simp [datN] at k; done)
  | .bl b, e, n, m, _, k => by cases e <;> first | (simp [toP, PyData.eqv, eqD]; done) | (simp [datN] at k; done)
  | .int i, e, n, m, _, k => by cases e <;> first | (simp [toP, PyData.eqv, eqD]; done) | (simp [datN] at k; done)
  | .str s, e, n, m, _, k => by
    cases e with
    | str t => simp only [toP, PyData.eqv, eqD]; exact str_beq s t
    | frz _ => simp [datN] at k
    | fn _ => simp [datN] at k
    | _ => simp [toP, PyData.eqv, eqD]
  | .tup ds, e, n, m, h, k => by
    cases e with
    | tup es =>
      cases n with
      | zero => simp [datN] at h
      | succ n =>
        cases m with
        | zero => simp [datN] at k
        | succ m =>
          simp only [toP, PyData.eqv, eqD]
          exact eqvL_toP ds es n m (by simpa [datN] using h) (by simpa [datN] using k)
    | frz _ => simp [datN] at k
    | fn _ => simp [datN] at k
    | _ => simp [toP, PyData.eqv, eqD]
  | .lst ds, e, n, m, h, k => by
    cases e with
    | lst es =>
      cases n with
      | zero => simp [datN] at h
      | succ n =>
        cases m with
        | zero => simp [datN] at k
        | succ m =>
          simp only [toP, PyData.eqv, eqD]
          exact eqvL_toP ds es n m (by simpa [datN] using h) (by simpa [datN] using k)
    | frz _ => simp [datN] at k
    | fn _ => simp [datN] at k
    | _ => simp [toP, PyData.eqv, eqD]
  | .frz _, e, n, m, h, k => by simp [datN] at h
  | .fn _, e, n, m, h, k => by simp [datN] at h
theorem eqvL_toP : ∀ (ds es : List D) (n m : Nat), datL n ds = true → datL m es = true → PyData.eqvAll (toPs ds) (toPs es) = eqL ds es
  | [], [], n, m, _, _ => by simp [toPs, PyData.eqvAll, eqL]
  | [], _ :: _, n, m, _, _ => by simp [toPs, PyData.eqvAll, eqL]
  | _ :: _, [], n, m, _, _ => by simp [toPs, PyData.eqvAll, eqL]
  | d :: ds, e :: es, n, m, h, k => by
    have h' : datN n d = true ∧ datL n ds = true := by simpa [datL] using h
    have k' : datN m e = true ∧ datL m es = true := by simpa [datL] using k
    simp only [toPs, PyData.eqvAll, eqL]
    rw [eqv_toP d e n m h'.1 k'.1, eqvL_toP ds es n m h'.2 k'.2]
end
theorem any_toP {d : D} (k : dat d = true) : ∀ (xs : List D), datL 59 xs = true → ((toPs xs).any fun z => PyData.eqv z (toP d)) = anyEq d xs
  | [], _ => rfl
  | x :: xs, h => by
    have h' : datN 59 x = true ∧ datL 59 xs = true := by simpa [datL] using h
    show (PyData.eqv (toP x) (toP d) || (toPs xs).any fun z => PyData.eqv z (toP d)) = (eqD x d || anyEq d xs)
    rw [eqv_toP x d 59 60 h'.1 k, any_toP k xs h'.2]
mutual
theorem lt_toP : ∀ (d e : D) (o : Ordering), cmpD d e = some o → PySem.W.alike (toP d) (toP e) = true ∧ toP d ≠ .none ∧ PySem.W.dataLt (toP d) (toP e) = (o == .lt) ∧ PyData.eqv (toP d) (toP e) = (o == .eq)
  | .int i, e, o, h => by
    cases e with
    | int j =>
      have h' : compare i j = o := Option.some.inj (by simpa [cmpD] using h)
      subst h'
      refine ⟨by simp [toP, PySem.W.alike], by simp [toP], ?_, ?_⟩
      · simp only [toP, PySem.W.dataLt_int]
        rw [Bool.eq_iff_iff]
        simp [Int.compare_eq_lt]
      · simp only [toP, PyData.eqv]
        rw [Bool.eq_iff_iff]
        simp [Int.compare_eq_eq]
    | _ => simp [cmpD] at h
  | .tup ds, e, o, h => by
    cases e with
    | tup es =>
      have h' : cmpL ds es = some o := by simpa [cmpD] using h
      obtain ⟨a, b, c⟩ := ltL_toP ds es o h'
      refine ⟨by simpa [toP, PySem.W.alike] using a, by simp [toP], ?_, by simpa [toP, PyData.eqv] using c⟩
      simp only [toP, PySem.W.dataLt_tuple]
      exact b
    | _ => simp [cmpD] at h
  | .non, e, o, h => by cases e <;> simp [cmpD] at h
  | .bl _, e, o, h => by cases e <;> simp [cmpD] at h
  | .str _, e, o, h => by cases e <;> simp [cmpD] at h
  | .lst _, e, o, h => by cases e <;> simp [cmpD] at h
  | .frz _, e, o, h => by cases e <;> simp [cmpD] at h
  | .fn _, e, o, h => by cases e <;> simp [cmpD] at h
theorem ltL_toP : ∀ (ds es : List D) (o : Ordering), cmpL ds es = some o →
    PySem.W.alikeAll (toPs ds) (toPs es) = true ∧ PyProof.Rows.lexLt PyProof.Rows.itemOrd (PySem.W.keyToksAll (toPs ds)) (PySem.W.keyToksAll (toPs es)) = (o == .lt) ∧ PyData.eqvAll (toPs ds) (toPs es) = (o == .eq)
  | [], [], o, h => by
    have h' : Ordering.eq = o := Option.some.inj (by simpa [cmpL] using h)
    subst h'
    refine ⟨by simp [toPs, PySem.W.alikeAll], ?_, by simp [toPs, PyData.eqvAll]⟩
    have := PySem.W.dataLt_tuple [] []
    simp only [toPs]
    decide +kernel
  | [], e :: es, o, h => by
    have h' : Ordering.lt = o := Option.some.inj (by simpa [cmpL] using h)
    subst h'
    refine ⟨by simp [toPs, PySem.W.alikeAll], ?_, by simp [toPs, PyData.eqvAll]⟩
    simp only [toPs, PySem.W.keyToksAll]
    rw [PyProof.Rows.lex_diff (by simp)]
    decide +kernel
  | d :: ds, [], o, h => by
    have h' : Ordering.gt = o := Option.some.inj (by simpa [cmpL] using h)
    subst h'
    refine ⟨by simp [toPs, PySem.W.alikeAll], ?_, by simp [toPs, PyData.eqvAll]⟩
    simp only [toPs, PySem.W.keyToksAll]
    rw [PyProof.Rows.lex_diff (by simp)]
    decide +kernel
  | d :: ds, e :: es, o, h => by
    cases q2 : cmpL ds es with
    | none => simp [cmpL, q2] at h
    | some r =>
      obtain ⟨a2, b2, c2⟩ := ltL_toP ds es r q2
      cases q : cmpD d e with
      | none => simp [cmpL, q2, q] at h
      | some o1 =>
        obtain ⟨a, _, b, c⟩ := lt_toP d e o1 q
        have al : PySem.W.alikeAll (toPs (d :: ds)) (toPs (e :: es)) = true := by simp [toPs, PySem.W.alikeAll, a, a2]
        refine ⟨al, ?_⟩
        simp only [toPs]
        rw [PySem.W.dataLt_cons a, c]
        simp only [PyData.eqvAll, c, c2]
        cases o1 with
        | eq =>
          have h2 : r = o := Option.some.inj (by simpa [cmpL, q2, q] using h)
          subst h2
          exact ⟨b2, rfl⟩
        | lt =>
          have h2 : Ordering.lt = o := Option.some.inj (by simpa [cmpL, q2, q] using h)
          subst h2
          exact ⟨b, rfl⟩
        | gt =>
          have h2 : Ordering.gt = o := Option.some.inj (by simpa [cmpL, q2, q] using h)
          subst h2
          exact ⟨b, rfl⟩
end
end Dk

/-! Dk4: expressions. -/
namespace Dk
open PySem PySem.Spec PyProof.Rows L2
section
variable {X : L2.Cx}
theorem PE.by {e : Expr} {t : TE} (h : ∀ σ H Q, t σ H Q → ∃ t', PE X e t' ∧ t' σ H Q) : PE X e t := ⟨fun pins s σ H Q I q => let ⟨_, p, q'⟩ := h σ H Q q; p.run pins s σ H Q I q'⟩
theorem PT.by {e : Expr} {t : TT} (h : ∀ σ H Q, t σ H Q → ∃ t', PT X e t' ∧ t' σ H Q) : PT X e t := ⟨fun pins s σ H Q I q => let ⟨_, p, q'⟩ := h σ H Q q; p.run pins s σ H Q I q'⟩
theorem OpR.by {f : Value → Value → Sem Value} {r : R2} (h : ∀ x y H Q, r x y H Q → ∃ r', OpR X f r' ∧ r' x y H Q) : OpR X f r := by
  intro pins s σ H x y v u Q I rx ry q
  obtain ⟨r', o, q'⟩ := h x y H Q q
  exact o pins s σ H x y v u Q I rx ry q'
theorem IxR.by {r : R2} (h : ∀ x y H Q, r x y H Q → ∃ r', IxR X r' ∧ r' x y H Q) : IxR X r := by
  intro value slice pins s σ H x y v u Q I rx ry q hs
  obtain ⟨r', o, q'⟩ := h x y H Q q
  exact o value slice pins s σ H x y v u Q I rx ry q' hs
theorem CallR.by {f : Value} {r : List V → Hp → VK → Prop} (h : ∀ xs H Q, r xs H Q → ∃ r', CallR X f r' ∧ r' xs H Q) : CallR X f r := by
  intro pins s σ H xs us Q I rs q
  obtain ⟨r', o, q'⟩ := h xs H Q q
  exact o pins s σ H xs us Q I rs q'
end

/-- of two represented values what op says -/
def r2D (G : Ge) (W : WX) (op : D → D → R) : R2 := fun v u H Q => ∃ F d d' σ, RepW G F H v d ∧ RepW G F H u d' ∧ (∀ a, F a → ∃ o, H a = some o) ∧ Post G F W σ H Q (op d d')
theorem tE.bin' {G : Ge} {W : WX} {a b : En → R} {op : D → D → R} (σ : VS) (H : Hp) (Q : VK) (h : tE G W (fun ρ => (a ρ).bnd fun x => (b ρ).bnd fun y => op x y) σ H Q) : tOp (r2D G W op) (tE G W a) (tE G W b) σ H Q :=
  tE.bin (op := op) (fun F H v u d d' σ Q r1 r2 dom p => ⟨F, d, d', σ, r1, r2, dom, p⟩) σ H Q h
def r1D (G : Ge) (W : WX) (op : D → R) : V → Hp → VK → Prop := fun v H Q => ∃ F d σ, RepW G F H v d ∧ (∀ a, F a → ∃ o, H a = some o) ∧ Post G F W σ H Q (op d)

/-- either a truth or nothing -/
def isB : R → Prop
  | .ok (.bl _) => True
  | .ok _ => False
  | .okm _ => False
  | _ => True
theorem isB_bnd {r : R} {f : D → R} (h : ∀ d, isB (f d)) : isB (r.bnd f) := by
  cases r with
  | ok d => exact h d
  | okm xs => exact h _
  | exc c => trivial
  | bad => trivial
theorem isB_if {c : Prop} [Decidable c] {r : R} (h : isB r) : isB (if c then r else .bad) := by
  split
  · exact h
  · trivial
theorem isB_ordI (p : Int → Int → Bool) (a b : D) : isB (ordI p a b) := by unfold ordI; split <;> trivial
theorem isB_lt (a b : D) : isB (ltD a b) := by
  unfold ltD
  refine isB_if ?_
  split <;> trivial
theorem isB_ge (a b : D) : isB (geD a b) := by
  unfold geD
  refine isB_if ?_
  split <;> trivial
theorem isB_inR (a b : D) : isB (inRD a b) := by
  unfold inRD
  split <;> trivial
theorem isB_in (a b : D) : isB (inD a b) := by
  unfold inD
  split <;> first
    | trivial
    | exact isB_if trivial
theorem isB_is (a b : D) : isB (isD a b) := by unfold isD; split <;> trivial
theorem isB_not {r : R} : isB (notR r) := by unfold notR; split <;> trivial
theorem isB_cmp (op : COp) (a b : D) : isB (cmpR op a b) := by
  unfold cmpR
  split <;> first
    | exact isB_if trivial
    | trivial
    | exact isB_lt _ _
    | exact isB_ge _ _
    | exact isB_ordI _ _ _
    | exact isB_in _ _
    | exact isB_not
    | exact isB_is _ _
section
variable {G : Ge} {W : WX} {F : Addr → Prop} {σ : VS} {H : Hp}
/-- a truth wanted, a value that is one -/
theorem PostT.val {r : R} {Q : Bool → Hp → Prop} (b : isB r) (h : PostT G F W σ H Q r) : Post G F W σ H (fun x H' => ∃ k, x = .bl k ∧ Q k H') r := by
  cases r with
  | ok d =>
    cases d with
    | bl k =>
      obtain ⟨b', e, h⟩ := h
      have e' : k = b' := Option.some.inj e
      subst e'
      intro v H' s r
      cases r
      exact ⟨k, rfl, h H' s⟩
    | _ => exact b.elim
  | okm xs => exact b.elim
  | exc c => exact h
  | bad => exact h
end
section
variable {X : L2.Cx} {G : Ge} {W : WX} {a b c : Expr} {pos : Pos} {ma mb mc : En → R}
theorem bin_isB {op : D → D → R} (h : ∀ x y, isB (op x y)) (ρ : En) : isB ((ma ρ).bnd fun x => (mb ρ).bnd fun y => op x y) := isB_bnd fun x => isB_bnd fun y => h x y
/-- a test by its value -/
theorem tT.val {m : En → R} (hb : ∀ ρ, isB (m ρ)) {σ : VS} {H : Hp} {Q : Bool → Hp → Prop} (h : tT G W m σ H Q) : tE G W m σ H (fun x H' => ∃ k, x = .bl k ∧ Q k H') := by
  obtain ⟨F, ρ, E, p⟩ := h
  exact ⟨F, ρ, E, p.val (hb ρ)⟩

/-! ### comparisons -/
theorem cor_eq (hu : X.A.units + 64 < cLine) (hK : X.K = G.K) : OpR X (compareOp .Eq) (r2D G W (cmpR .eq)) := OpR.by fun v u H Q ⟨F, d, d', σ, r1, r2, dom, h⟩ => by
  obtain ⟨⟨k1, k2⟩, h⟩ := if_ok (c := dat d = true ∧ dat d' = true) (r := .ok (.bl (eqD d d'))) (P := Post G F W σ H Q) h (fun z => z)
  obtain ⟨p1, s1⟩ := r1.full.data k1
  obtain ⟨p2, s2⟩ := r2.full.data k2
  refine ⟨_, op_eqD hu, _, _, by rw [hK]; exact p1, by rw [hK]; exact p2, s1, s2, ?_⟩
  rw [eqv_toP d d' 60 60 k1 k2]
  exact h.ok (.bl _)
theorem cor_ne (hu : X.A.units + 64 < cLine) (hK : X.K = G.K) : OpR X (compareOp .NotEq) (r2D G W (cmpR .ne)) := OpR.by fun v u H Q ⟨F, d, d', σ, r1, r2, dom, h⟩ => by
  obtain ⟨⟨k1, k2⟩, h⟩ := if_ok (c := dat d = true ∧ dat d' = true) (r := .ok (.bl (!eqD d d'))) (P := Post G F W σ H Q) h (fun z => z)
  obtain ⟨p1, s1⟩ := r1.full.data k1
  obtain ⟨p2, s2⟩ := r2.full.data k2
  refine ⟨_, op_neD hu, _, _, by rw [hK]; exact p1, by rw [hK]; exact p2, s1, s2, ?_⟩
  rw [eqv_toP d d' 60 60 k1 k2]
  exact h.ok (.bl _)
theorem ordI_ok {F : Addr → Prop} {H : Hp} {v u : V} {d d' : D} {σ : VS} {Q : VK} {p : Int → Int → Bool} (r1 : RepW G F H v d) (r2 : RepW G F H u d') (h : Post G F W σ H Q (ordI p d d')) : rI0 (fun i j => .bl (p i j)) v u H Q := by
  unfold ordI at h
  split at h
  · exact ⟨_, _, r1.int, r2.int, h.ok (.bl _)⟩
  · exact h.elim
theorem cor_le : OpR X (compareOp .LtE) (r2D G W (cmpR .le)) := OpR.by fun v u H Q ⟨F, d, d', σ, r1, r2, dom, h⟩ => ⟨_, op_le, ordI_ok r1 r2 h⟩
theorem cor_gt : OpR X (compareOp .Gt) (r2D G W (cmpR .gt)) := OpR.by fun v u H Q ⟨F, d, d', σ, r1, r2, dom, h⟩ => ⟨_, op_gt, ordI_ok r1 r2 h⟩
/-- a < b of data that can be compared -/
def rLtG (K : PySem.W.Frag) : R2 := fun x y H Q => ∃ d e, Dp K H x d ∧ Dp K H y e ∧ SeqAt.shaped d = true ∧ PySem.W.alike d e = true ∧ d ≠ .none ∧ Q (.bl (PySem.W.dataLt d e)) H
theorem op_ltG (hu : X.A.units + 64 < cLine) : OpR X (compareOp .Lt) (rLtG X.K) := by
  intro pins s σ H x y v u Q I rx ry h
  obtain ⟨d, e, hd, he, sd, al, ne, q⟩ := h
  obtain ⟨as, r1⟩ := Dp.reads I d x v hd rx
  obtain ⟨bs, r2⟩ := Dp.reads I e y u he ry
  have hr : X.A.units + min d.depth e.depth < cLine := by
    have := SeqAt.depth_of_shaped sd
    have h2 : min d.depth e.depth ≤ d.depth := Nat.min_le_left _ _
    omega
  exact PySem.W.rcLt_alike d e X.A s v u as bs r1 r2 al ne hr _ _ _ _ ⟨.bl _, H, I, rfl, q⟩
theorem cor_lt (hu : X.A.units + 64 < cLine) (hK : X.K = G.K) : OpR X (compareOp .Lt) (r2D G W (cmpR .lt)) := OpR.by fun v u H Q ⟨F, d, d', σ, r1, r2, dom, h⟩ => by
  have gen : Post G F W σ H Q (ltD d d') → ∃ r', OpR X (compareOp .Lt) r' ∧ r' v u H Q := fun h => by
    obtain ⟨⟨k1, k2⟩, h⟩ := if_ok (P := Post G F W σ H Q) h (fun z => z)
    obtain ⟨p1, s1⟩ := r1.full.data k1
    obtain ⟨p2, s2⟩ := r2.full.data k2
    split at h
    · rename_i o e
      obtain ⟨a1, a2, a3, _⟩ := lt_toP d d' o e
      exact ⟨_, op_ltG hu, _, _, by rw [hK]; exact p1, by rw [hK]; exact p2, s1, a1, a2, by rw [a3]; exact h.ok (.bl _)⟩
    · exact h.elim
  by_cases hh : ∃ i j, d = .int i ∧ d' = .int j
  · obtain ⟨i, j, rfl, rfl⟩ := hh
    replace h : Post G F W σ H Q (.ok (.bl (decide (i < j)))) := h
    exact ⟨_, op_lt, i, j, r1.int, r2.int, h.ok (.bl _)⟩
  · have e : cmpR .lt d d' = ltD d d' := by
      cases d <;> cases d' <;> first
        | rfl
        | exact absurd ⟨_, _, rfl, rfl⟩ hh
    rw [e] at h
    exact gen h
/-- a >= b of data that can be compared -/
def rGeG (K : PySem.W.Frag) : R2 := fun x y H Q => ∃ d e, Dp K H x d ∧ Dp K H y e ∧ SeqAt.shaped d = true ∧ PySem.W.alike d e = true ∧ d ≠ .none ∧ Q (.bl (!PySem.W.dataLt d e)) H
theorem op_geG (hu : X.A.units + 64 < cLine) : OpR X (compareOp .GtE) (rGeG X.K) := by
  intro pins s σ H x y v u Q I rx ry h
  obtain ⟨d, e, hd, he, sd, al, ne, q⟩ := h
  obtain ⟨as, r1⟩ := Dp.reads I d x v hd rx
  obtain ⟨bs, r2⟩ := Dp.reads I e y u he ry
  have hr : X.A.units + min d.depth e.depth < cLine := by
    have := SeqAt.depth_of_shaped sd
    have h2 : min d.depth e.depth ≤ d.depth := Nat.min_le_left _ _
    omega
  exact PySem.W.rcGe_alike d e X.A s v u as bs r1 r2 al ne hr _ _ _ _ ⟨.bl _, H, I, rfl, q⟩
theorem cor_ge (hu : X.A.units + 64 < cLine) (hK : X.K = G.K) : OpR X (compareOp .GtE) (r2D G W (cmpR .ge)) := OpR.by fun v u H Q ⟨F, d, d', σ, r1, r2, dom, h⟩ => by
  have gen : Post G F W σ H Q (geD d d') → ∃ r', OpR X (compareOp .GtE) r' ∧ r' v u H Q := fun h => by
    obtain ⟨⟨k1, k2⟩, h⟩ := if_ok (P := Post G F W σ H Q) h (fun z => z)
    obtain ⟨p1, s1⟩ := r1.full.data k1
    obtain ⟨p2, s2⟩ := r2.full.data k2
    split at h
    · rename_i o e
      obtain ⟨a1, a2, a3, _⟩ := lt_toP d d' o e
      exact ⟨_, op_geG hu, _, _, by rw [hK]; exact p1, by rw [hK]; exact p2, s1, a1, a2, by rw [a3]; exact h.ok (.bl _)⟩
    · exact h.elim
  by_cases hh : ∃ i j, d = .int i ∧ d' = .int j
  · obtain ⟨i, j, rfl, rfl⟩ := hh
    replace h : Post G F W σ H Q (.ok (.bl (decide (j ≤ i)))) := h
    exact ⟨_, op_ge, i, j, r1.int, r2.int, h.ok (.bl _)⟩
  · have e : cmpR .ge d d' = geD d d' := by
      cases d <;> cases d' <;> first
        | rfl
        | exact absurd ⟨_, _, rfl, rfl⟩ hh
    rw [e] at h
    exact gen h
/-- in a tuple -/
def rInDT (K : PySem.W.Frag) : R2 := fun x y H Q => ∃ d ds, Dp K H x d ∧ Dp K H y (.tuple ds) ∧ SeqAt.shaped d = true ∧ SeqAt.shaped (.tuple ds) = true ∧ Q (.bl (ds.any fun z => PyData.eqv z d)) H
def rNotInDT (K : PySem.W.Frag) : R2 := fun x y H Q => ∃ d ds, Dp K H x d ∧ Dp K H y (.tuple ds) ∧ SeqAt.shaped d = true ∧ SeqAt.shaped (.tuple ds) = true ∧ Q (.bl (!ds.any fun z => PyData.eqv z d)) H
theorem op_inDT (hu : X.A.units + 65 < cLine) : OpR X (compareOp .In) (rInDT X.K) := by
  intro pins s σ H x y v u Q I rx ry h
  obtain ⟨d, ds, hd, he, sd, se, q⟩ := h
  obtain ⟨as, r1⟩ := Dp.reads I d x v hd rx
  obtain ⟨bs, r2⟩ := Dp.reads I (.tuple ds) y u he ry
  exact SeqAt.in_tuple_reads r2 r1 (SeqAt.canLay_of_shaped se) (SeqAt.canLay_of_shaped sd) (room_in_shaped sd hu) ⟨.bl _, H, I, rfl, q⟩
theorem op_notInDT (hu : X.A.units + 65 < cLine) : OpR X (compareOp .NotIn) (rNotInDT X.K) := by
  intro pins s σ H x y v u Q I rx ry h
  obtain ⟨d, ds, hd, he, sd, se, q⟩ := h
  obtain ⟨as, r1⟩ := Dp.reads I d x v hd rx
  obtain ⟨bs, r2⟩ := Dp.reads I (.tuple ds) y u he ry
  exact SeqAt.notIn_tuple_reads r2 r1 (SeqAt.canLay_of_shaped se) (SeqAt.canLay_of_shaped sd) (room_in_shaped sd hu) ⟨.bl _, H, I, rfl, q⟩
theorem dat_tup {xs : List D} (h : datL 59 xs = true) : dat (.tup xs) = true := by show datN 60 (.tup xs) = true; simpa [datN] using h
theorem dat_lst {xs : List D} (h : datL 59 xs = true) : dat (.lst xs) = true := by show datN 60 (.lst xs) = true; simpa [datN] using h
theorem contains_dec (z : List Nat) (c : Nat) : decide (c ∈ (sV z).cps.toList) = z.contains c := by
  show decide (c ∈ z) = z.contains c
  rw [Bool.eq_iff_iff, decide_eq_true_eq, List.contains_iff_mem]
theorem cor_in (hu : X.A.units + 65 < cLine) (hK : X.K = G.K) : OpR X (compareOp .In) (r2D G W (cmpR .isin)) := OpR.by fun v u H Q ⟨F, d, d', σ, r1, r2, dom, h⟩ => by
  replace h : Post G F W σ H Q (inD d d') := h
  unfold inD at h
  split at h
  · rename_i c z
    exact ⟨_, op_in_sign, c, sV z, r1.str.1, r2.str.1, by rw [contains_dec]; exact h.ok (.bl _)⟩
  · exact h.elim
  · rename_i d xs
    obtain ⟨⟨k1, k2⟩, h⟩ := if_ok (P := Post G F W σ H Q) h (fun z => z)
    obtain ⟨p1, s1⟩ := r1.full.data k1
    obtain ⟨p2, s2⟩ := r2.full.data (dat_tup k2)
    exact ⟨_, op_inDT hu, _, toPs xs, by rw [hK]; exact p1, by rw [hK]; exact p2, s1, s2, by rw [any_toP k1 xs k2]; exact h.ok (.bl _)⟩
  · rename_i d xs
    obtain ⟨⟨k1, k2⟩, h⟩ := if_ok (P := Post G F W σ H Q) h (fun z => z)
    obtain ⟨p1, s1⟩ := r1.full.data k1
    obtain ⟨p2, s2⟩ := r2.full.data (dat_lst k2)
    exact ⟨_, op_inD hu, _, toPs xs, by rw [hK]; exact p1, by rw [hK]; exact p2, s1, s2, by rw [any_toP k1 xs k2]; exact h.ok (.bl _)⟩
  · exact h.elim
theorem Post.not {F : Addr → Prop} {σ : VS} {H : Hp} {Q : VK} {b : Bool} (h : Post G F W σ H Q (notR (.ok (.bl b)))) : Q (.bl (!b)) H := h _ H (Same.refl H) (.bl _)
theorem cor_notin (hu : X.A.units + 65 < cLine) (hK : X.K = G.K) : OpR X (compareOp .NotIn) (r2D G W (cmpR .notin)) := OpR.by fun v u H Q ⟨F, d, d', σ, r1, r2, dom, h⟩ => by
  replace h : Post G F W σ H Q (notR (inD d d')) := h
  unfold inD at h
  split at h
  · rename_i c z
    exact ⟨_, op_notIn_sign, c, sV z, r1.str.1, r2.str.1, by rw [contains_dec]; exact h.not⟩
  · exact h.elim
  · rename_i d xs
    obtain ⟨⟨k1, k2⟩, h⟩ := if_ok (P := fun r => Post G F W σ H Q (notR r)) h (fun z => z)
    obtain ⟨p1, s1⟩ := r1.full.data k1
    obtain ⟨p2, s2⟩ := r2.full.data (dat_tup k2)
    exact ⟨_, op_notInDT hu, _, toPs xs, by rw [hK]; exact p1, by rw [hK]; exact p2, s1, s2, by rw [any_toP k1 xs k2]; exact h.not⟩
  · rename_i d xs
    obtain ⟨⟨k1, k2⟩, h⟩ := if_ok (P := fun r => Post G F W σ H Q (notR r)) h (fun z => z)
    obtain ⟨p1, s1⟩ := r1.full.data k1
    obtain ⟨p2, s2⟩ := r2.full.data (dat_lst k2)
    exact ⟨_, op_notInD hu, _, toPs xs, by rw [hK]; exact p1, by rw [hK]; exact p2, s1, s2, by rw [any_toP k1 xs k2]; exact h.not⟩
  · exact h.elim
theorem rep_ne_non {F : Addr → Prop} {H : Hp} {v : V} {d : D} (h : RepW G F H v d) (n : d ≠ .non) : v ≠ .non := by
  rcases h with h | ⟨xs, e, a, vs, e2, _⟩
  · intro z
    subst z
    cases h
    exact n rfl
  · rw [e2]; exact fun z => nomatch z
theorem cor_is : OpR X (compareOp .Is) (r2D G W (cmpR .is)) := OpR.by fun v u H Q ⟨F, d, d', σ, r1, r2, dom, h⟩ => by
  replace h : Post G F W σ H Q (isD d d') := h
  unfold isD at h
  split at h
  · rename_i a b
    exact ⟨_, op_isBl, a, b, r1.bl, r2.bl, by have := h.ok (v := .bl (a == b)) (.bl _); rw [Bool.beq_eq_decide_eq] at this; exact this⟩
  · have e := r1.non
    subst e
    exact ⟨_, op_isN, r2.non, h.ok (.bl _)⟩
  · exact h.elim
  · rename_i n1 n2
    have ne := rep_ne_non r1 fun z => n1 z
    exact ⟨_, op_isN, r2.non, by rw [decide_eq_false ne]; exact h.ok (.bl _)⟩
  · exact h.elim
theorem cor_isnt : OpR X (compareOp .IsNot) (r2D G W (cmpR .isnt)) := OpR.by fun v u H Q ⟨F, d, d', σ, r1, r2, dom, h⟩ => by
  replace h : Post G F W σ H Q (notR (isD d d')) := h
  unfold isD at h
  split at h
  · rename_i a b
    exact ⟨_, op_notBl, a, b, r1.bl, r2.bl, by have := h.not; rw [Bool.beq_eq_decide_eq] at this; exact this⟩
  · have e := r1.non
    subst e
    exact ⟨_, op_notN, r2.non, h.not⟩
  · exact h.elim
  · rename_i n1 n2
    have ne := rep_ne_non r1 fun z => n1 z
    exact ⟨_, op_notN, r2.non, by rw [decide_eq_false ne]; exact h.not⟩
  · exact h.elim
def cOf : COp → CmpOp
  | .eq => .Eq | .ne => .NotEq | .lt => .Lt | .le => .LtE | .gt => .Gt | .ge => .GtE | .isin => .In | .notin => .NotIn | .is => .Is | .isnt => .IsNot
theorem cor (op : COp) (hu : X.A.units + 65 < cLine) (hK : X.K = G.K) : OpR X (compareOp (cOf op)) (r2D G W (cmpR op)) := by
  cases op with
  | eq => exact cor_eq (by omega) hK
  | ne => exact cor_ne (by omega) hK
  | lt => exact cor_lt (by omega) hK
  | le => exact cor_le
  | gt => exact cor_gt
  | ge => exact cor_ge (by omega) hK
  | isin => exact cor_in hu hK
  | notin => exact cor_notin hu hK
  | is => exact cor_is
  | isnt => exact cor_isnt
theorem pe_cmpD (op : COp) (hu : X.A.units + 65 < cLine) (hK : X.K = G.K) (ha : PE X a (tE G W ma)) (hb : PE X b (tE G W mb)) (hm : behindInMarks (cOf op) b = false) :
    PE X (.Compare a [cOf op] [b] pos) (tE G W fun ρ => (ma ρ).bnd fun x => (mb ρ).bnd fun y => cmpR op x y) := PE.imp (pe_cmpR (cor op hu hK) ha hb hm) tE.bin'
theorem pt_cmpD (op : COp) (hu : X.A.units + 65 < cLine) (hK : X.K = G.K) (ha : PE X a (tE G W ma)) (hb : PE X b (tE G W mb)) (hm : behindInMarks (cOf op) b = false) :
    PT X (.Compare a [cOf op] [b] pos) (tT G W fun ρ => (ma ρ).bnd fun x => (mb ρ).bnd fun y => cmpR op x y) :=
  PT.imp (pt_cmpR (cor op hu hK) ha hb hm) fun σ H Q h => tE.bin' σ H _ (tT.val (fun ρ => bin_isB (isB_cmp op) ρ) h)
theorem isB_ch (o o' : COp) (x y : D) (z : R) : isB (chR o o' x y z) := isB_bnd fun t => by
  split
  · exact isB_bnd fun z => isB_cmp _ _ _
  · trivial
  · trivial
theorem tE.chain (o o' : COp) (σ : VS) (H : Hp) (Q : VK) (h : tE G W (fun ρ => (ma ρ).bnd fun x => (mb ρ).bnd fun y => chR o o' x y (mc ρ)) σ H Q) : tChain (r2D G W (cmpR o)) (r2D G W (cmpR o')) (tE G W ma) (tE G W mb) (tE G W mc) σ H Q := by
  obtain ⟨F, ρ, E, p⟩ := h
  refine ⟨F, ρ, E, Post.w p _ fun d v H' e q p' => ⟨F, ρ, E.up e, Post.w p' _ fun d' u H2 e2 q2 p2 => ?_⟩⟩
  refine ⟨F, d, d', σ, q.up e2, q2, (E.up (e.trans e2)).dom, ?_⟩
  have hb := isB_cmp o d d'
  unfold chR at p2
  cases hr : cmpR o d d' with
  | ok t =>
    rw [hr] at hb p2
    cases t with
    | bl k =>
      intro z H3 e3 rz
      cases rz
      refine ⟨k, rfl, ?_⟩
      cases k with
      | false =>
        rw [if_neg Bool.false_ne_true]
        exact p2 _ _ e3 (.bl _)
      | true =>
        rw [if_pos rfl]
        have E3 := E.up ((e.trans e2).trans e3)
        refine ⟨F, ρ, E3, ?_⟩
        refine Post.w (Post.up (r := (mc ρ).bnd fun z => cmpR o' d' z) p2 e3) _ fun d3 w' H4 e4 q4 p4 => ?_
        exact ⟨F, d', d3, σ, q2.up (e3.trans e4), q4, (E3.up e4).dom, p4⟩
    | _ => exact hb.elim
  | okm xs => rw [hr] at hb; exact hb.elim
  | exc c => rw [hr] at p2; exact p2
  | bad => rw [hr] at p2; exact p2
theorem pe_chainD (o o' : COp) (hu : X.A.units + 65 < cLine) (hK : X.K = G.K) (ha : PE X a (tE G W ma)) (hb : PE X b (tE G W mb)) (hc : PE X c (tE G W mc)) (hm : lastMarks [cOf o, cOf o'] [b, c] = false) :
    PE X (.Compare a [cOf o, cOf o'] [b, c] pos) (tE G W fun ρ => (ma ρ).bnd fun x => (mb ρ).bnd fun y => chR o o' x y (mc ρ)) := PE.imp (pe_chain (cor o hu hK) (cor o' hu hK) ha hb hc hm) (tE.chain o o')
theorem pt_chainD (o o' : COp) (hu : X.A.units + 65 < cLine) (hK : X.K = G.K) (ha : PE X a (tE G W ma)) (hb : PE X b (tE G W mb)) (hc : PE X c (tE G W mc)) (hm : lastMarks [cOf o, cOf o'] [b, c] = false) :
    PT X (.Compare a [cOf o, cOf o'] [b, c] pos) (tT G W fun ρ => (ma ρ).bnd fun x => (mb ρ).bnd fun y => chR o o' x y (mc ρ)) :=
  PT.imp (pt_chain (cor o hu hK) (cor o' hu hK) ha hb hc hm) fun σ H Q h => tE.chain o o' σ H _ (tT.val (fun ρ => isB_bnd fun x => isB_bnd fun y => isB_ch o o' x y _) h)
end
end Dk

/-! Dk5: and, or, not, if; displays; items; slices. -/
namespace Dk
open PySem PySem.Spec PyProof.Rows L2
/-! ### truth -/
theorem truV_of {G : Ge} {F : Addr → Prop} {H : Hp} {v : V} {d : D} {b : Bool} (h : RepW G F H v d) (e : truD d = some b) : TruV G.K v H b := by
  cases d with
  | non => have := h.non; subst this; exact (Option.some.inj e).symm
  | bl k => have := h.bl; subst this; exact (Option.some.inj e).symm
  | int i => have := h.int; subst this; exact (Option.some.inj e).symm
  | str s =>
    obtain ⟨e1, e2⟩ := h.str
    subst e1
    refine ⟨by rw [sV_len]; exact e2.len, ?_⟩
    have := Option.some.inj e
    rw [← this, sV_len]
    cases s with
    | nil => rfl
    | cons a r =>
      show true = ((((a :: r).length : Nat) : Int) != 0)
      rw [List.length_cons]
      simp
      omega
  | tup xs =>
    obtain ⟨a, vs, e1, s1, l1, q1, w1⟩ := h.tup
    subst e1
    exact .inr (.inl ⟨vs, s1, by rw [q1.isEmpty]; exact (Option.some.inj e).symm⟩)
  | lst xs =>
    obtain ⟨a, vs, e1, s1, l1, q1⟩ := h.lst
    subst e1
    exact .inl ⟨vs, .inl (.inl s1), by rw [q1.isEmpty]; exact (Option.some.inj e).symm⟩
  | frz _ => cases e
  | fn _ => cases e
section
variable {X : L2.Cx} {G : Ge} {W : WX} {a b c : Expr} {pos : Pos} {ma mb mc : En → R} {rest : List Expr}
theorem tT.tru {m : En → R} {σ : VS} {H : Hp} {Q : Bool → Hp → Prop} (h : tT G W m σ H Q) : tE G W m σ H (fun x H' => ∃ k, TruV G.K x H' k ∧ Q k H') := by
  obtain ⟨F, ρ, E, p⟩ := h
  try dsimp only at p
  refine ⟨F, ρ, E, ?_⟩
  cases hr : m ρ with
  | ok d =>
    rw [hr] at p
    obtain ⟨k, e, p⟩ := p
    exact fun v H' s r => ⟨k, truV_of (.inl r) e, p H' s⟩
  | okm xs =>
    rw [hr] at p
    exact fun v H' s r => ⟨!xs.isEmpty, truV_of (.inr ⟨xs, rfl, r⟩) rfl, p H' s⟩
  | exc c => rw [hr] at p; exact p
  | bad => rw [hr] at p; exact p
theorem pt_tru {m : En → R} (hK : X.K = G.K) (ha : PE X a (tE G W m)) (he : ∀ whole, isTrue a X.env whole = (do let v ← whole; standAt a.pos; holding [v] (truthy v))) : PT X a (tT G W m) :=
  PT.imp (pt_truth ha he) fun σ H Q h => by rw [hK]; exact h.tru
theorem pe_andD (ha : PE X a (tE G W ma)) (hb : PE X (.BoolOp .And (b :: rest) pos) (tE G W mb)) : PE X (.BoolOp .And (a :: b :: rest) pos) (tE G W fun ρ => (ma ρ).bnd fun x => andR x (mb ρ)) := by
  refine PE.imp (pe_and ha hb) fun σ H Q h => ?_
  obtain ⟨F, ρ, E, p⟩ := h
  try dsimp only at p
  refine ⟨F, ρ, E, Post.w p _ fun d v H' e q p' => ?_⟩
  unfold andR at p'
  split at p'
  · exact ⟨true, q.bl, by rw [if_pos rfl]; exact ⟨F, ρ, E.up e, p'⟩⟩
  · exact ⟨false, q.bl, by rw [if_neg Bool.false_ne_true]; exact p'.ok (.bl _)⟩
  · exact p'.elim
theorem pe_orD (ha : PE X a (tE G W ma)) (hb : PE X (.BoolOp .Or (b :: rest) pos) (tE G W mb)) : PE X (.BoolOp .Or (a :: b :: rest) pos) (tE G W fun ρ => (ma ρ).bnd fun x => orR x (mb ρ)) := by
  refine PE.imp (pe_or ha hb) fun σ H Q h => ?_
  obtain ⟨F, ρ, E, p⟩ := h
  try dsimp only at p
  refine ⟨F, ρ, E, Post.w p _ fun d v H' e q p' => ?_⟩
  unfold orR at p'
  split at p'
  · exact ⟨true, q.bl, by rw [if_pos rfl]; exact p'.ok (.bl _)⟩
  · exact ⟨false, q.bl, by rw [if_neg Bool.false_ne_true]; exact ⟨F, ρ, E.up e, p'⟩⟩
  · exact p'.elim
/-- a test whose value goes on -/
theorem PostT.w {F : Addr → Prop} {σ : VS} {H : Hp} {Q : Bool → Hp → Prop} {r : R} {op : D → R} (h : PostT G F W σ H Q (r.bnd op)) (K : Bool → Hp → Prop) (b : ∀ d, r = .ok d ∨ (∃ xs, r = .okm xs ∧ d = .lst xs) → PostT G F W σ H Q (op d) → ∃ k, truD d = some k)
    (k : ∀ d t H', truD d = some t → Same H H' → PostT G F W σ H' Q (op d) → K t H') : PostT G F W σ H K r := by
  cases r with
  | ok d =>
    obtain ⟨t, e⟩ := b d (.inl rfl) h
    exact ⟨t, e, fun H' s => k d t H' e s (PostT.up (r := op d) h s)⟩
  | okm xs => exact fun H' s => k (.lst xs) _ H' rfl s (PostT.up (r := op (.lst xs)) h s)
  | exc c => exact h
  | bad => exact h
theorem pw_andD (ha : PT X a (tT G W ma)) (hb : PW X (.BoolOp .And (b :: rest) pos) (tT G W mb)) : PW X (.BoolOp .And (a :: b :: rest) pos) (tT G W fun ρ => (ma ρ).bnd fun x => andR x (mb ρ)) := by
  refine ⟨fun wh pins s σ H Q I h => (pw_and ha hb).run wh pins s σ H Q I ?_⟩
  obtain ⟨F, ρ, E, p⟩ := h
  try dsimp only at p
  refine ⟨F, ρ, E, PostT.w p _ (fun d _ p' => ?_) fun d t H' et e p' => ?_⟩
  · unfold andR at p'
    split at p'
    · exact ⟨true, rfl⟩
    · exact ⟨false, rfl⟩
    · exact p'.elim
  · unfold andR at p'
    split at p'
    · obtain rfl : true = t := Option.some.inj et
      rw [if_pos rfl]
      exact ⟨F, ρ, E.up e, p'⟩
    · obtain rfl : false = t := Option.some.inj et
      rw [if_neg Bool.false_ne_true]
      obtain ⟨k, e2, p2⟩ := p'
      obtain rfl : false = k := Option.some.inj e2
      exact p2 _ (Same.refl _)
    · exact p'.elim
theorem pw_orD (ha : PT X a (tT G W ma)) (hb : PW X (.BoolOp .Or (b :: rest) pos) (tT G W mb)) : PW X (.BoolOp .Or (a :: b :: rest) pos) (tT G W fun ρ => (ma ρ).bnd fun x => orR x (mb ρ)) := by
  refine ⟨fun wh pins s σ H Q I h => (pw_or ha hb).run wh pins s σ H Q I ?_⟩
  obtain ⟨F, ρ, E, p⟩ := h
  try dsimp only at p
  refine ⟨F, ρ, E, PostT.w p _ (fun d _ p' => ?_) fun d t H' et e p' => ?_⟩
  · unfold orR at p'
    split at p'
    · exact ⟨true, rfl⟩
    · exact ⟨false, rfl⟩
    · exact p'.elim
  · unfold orR at p'
    split at p'
    · obtain rfl : true = t := Option.some.inj et
      rw [if_pos rfl]
      obtain ⟨k, e2, p2⟩ := p'
      obtain rfl : true = k := Option.some.inj e2
      exact p2 _ (Same.refl _)
    · obtain rfl : false = t := Option.some.inj et
      rw [if_neg Bool.false_ne_true]
      exact ⟨F, ρ, E.up e, p'⟩
    · exact p'.elim
theorem pe_notD (hK : X.K = G.K) (ha : PE X a (tE G W ma)) : PE X (.UnaryOp .Not a pos) (tE G W fun ρ => (ma ρ).bnd notD) := by
  refine PE.imp (pe_notT ha) fun σ H Q h => ?_
  obtain ⟨F, ρ, E, p⟩ := h
  try dsimp only at p
  refine ⟨F, ρ, E, Post.w p _ fun d v H' e q p' => ?_⟩
  unfold notD at p'
  split at p'
  · rename_i t et
    exact ⟨t, by rw [hK]; exact truV_of q et, p'.ok (.bl _)⟩
  · exact p'.elim
theorem pt_notD (ha : PT X a (tT G W ma)) : PT X (.UnaryOp .Not a pos) (tT G W fun ρ => (ma ρ).bnd notD) := by
  refine PT.imp (pt_not ha) fun σ H Q h => ?_
  obtain ⟨F, ρ, E, p⟩ := h
  try dsimp only at p
  refine ⟨F, ρ, E, PostT.w p _ (fun d _ p' => ?_) fun d t H' et e p' => ?_⟩
  · unfold notD at p'
    split at p'
    · rename_i t et; exact ⟨t, et⟩
    · exact p'.elim
  · unfold notD at p'
    rw [et] at p'
    obtain ⟨k, e2, p2⟩ := p'
    obtain rfl : (!t) = k := Option.some.inj e2
    exact p2 _ (Same.refl _)
/-- a test, then one of two -/
theorem tT.ife {σ : VS} {H : Hp} {Q : VK} (h : tE G W (fun ρ => (mc ρ).bnd fun x => ifR x (ma ρ) (mb ρ)) σ H Q) : tT G W mc σ H fun k H1 => if k = true then tE G W ma σ H1 Q else tE G W mb σ H1 Q := by
  obtain ⟨F, ρ, E, p⟩ := h
  try dsimp only at p
  have key : ∀ d H', Same H H' → Post G F W σ H Q (ifR d (ma ρ) (mb ρ)) → ∀ t, truD d = some t → (if t = true then tE G W ma σ H' Q else tE G W mb σ H' Q) := fun d H' e p t et => by
    unfold ifR at p
    rw [et] at p
    cases t with
    | true => rw [if_pos rfl]; exact ⟨F, ρ, E.up e, Post.up (r := ma ρ) p e⟩
    | false => rw [if_neg Bool.false_ne_true]; exact ⟨F, ρ, E.up e, Post.up (r := mb ρ) p e⟩
  refine ⟨F, ρ, E, ?_⟩
  cases hr : mc ρ with
  | ok d =>
    rw [hr] at p
    have p' : Post G F W σ H Q (ifR d (ma ρ) (mb ρ)) := p
    cases et : truD d with
    | none => unfold ifR at p'; rw [et] at p'; exact p'.elim
    | some t => exact ⟨t, et, fun H' e => key d H' e p' t et⟩
  | okm xs =>
    rw [hr] at p
    exact fun H' e => key (.lst xs) H' e p _ rfl
  | exc c => rw [hr] at p; exact p
  | bad => rw [hr] at p; exact p
theorem pe_ifD (hc : PT X c (tT G W mc)) (ha : PE X a (tE G W ma)) (hb : PE X b (tE G W mb)) : PE X (.IfExp c a b pos) (tE G W fun ρ => (mc ρ).bnd fun x => ifR x (ma ρ) (mb ρ)) := PE.imp (pe_ifExp hc ha hb) fun σ H Q h => tT.ife h
end

/-! ### arguments, displays -/
section
variable {X : L2.Cx} {G : Ge} {W : WX} {e : Expr} {es : List Expr} {pos : Pos} {m : En → R} {ms : En → Rs}
theorem pa_nilD : PA X [] (tAs G W fun _ => .ok []) := PA.imp pa_nil fun σ H Q h => by
  obtain ⟨F, ρ, E, p⟩ := h
  try dsimp only at p
  exact p [] H (Same.refl H) .nil
theorem pa_nilW : PA X [] (tAw G W fun _ => .ok []) := PA.imp pa_nil fun σ H Q h => by
  obtain ⟨F, ρ, E, p⟩ := h
  try dsimp only at p
  exact p [] H (Same.refl H) .nil
theorem pa_consD (ha : PE X e (tE G W m)) (hr : PA X es (tAs G W ms)) (hs : starEach (e :: es) X.env = (false, eval e X.env) :: starEach es X.env) : PA X (e :: es) (tAs G W fun ρ => consL (m ρ) (ms ρ)) := PA.imp (pa_cons ha hr hs) fun σ H Q h => by
  obtain ⟨F, ρ, E, p⟩ := h
  try dsimp only at p
  refine ⟨F, ρ, E, ?_⟩
  cases h1 : m ρ with
  | ok d =>
    rw [h1] at p
    intro v H1 e1 r1
    refine ⟨F, ρ, E.up e1, ?_⟩
    cases h2 : ms ρ with
    | ok ds =>
      rw [h2] at p
      exact fun vs H2 e2 r2 => p (v :: vs) H2 (e1.trans e2) (.cons (r1.up (sol_up e2)) r2)
    | exc c => rw [h2] at p; exact fun H2 e2 => p H2 (e1.trans e2)
    | bad => rw [h2] at p; exact p
  | okm xs => rw [h1] at p; exact p.elim
  | exc c => rw [h1] at p; exact p
  | bad => rw [h1] at p; exact p
theorem pa_consW (ha : PE X e (tE G W m)) (hr : PA X es (tAw G W ms)) (hs : starEach (e :: es) X.env = (false, eval e X.env) :: starEach es X.env) : PA X (e :: es) (tAw G W fun ρ => consW (m ρ) (ms ρ)) := PA.imp (pa_cons ha hr hs) fun σ H Q h => by
  obtain ⟨F, ρ, E, p⟩ := h
  try dsimp only at p
  have go : ∀ d, PostW G F W σ H Q (match ms ρ with
      | .ok ds => .ok (d :: ds)
      | l => l) → ∀ v H1, Same H H1 → RepW G F H1 v d → tAw G W ms σ H1 fun vs H2 => Q (v :: vs) H2 := fun d p v H1 e1 r1 => by
    refine ⟨F, ρ, E.up e1, ?_⟩
    cases h2 : ms ρ with
    | ok ds =>
      rw [h2] at p
      exact fun vs H2 e2 r2 => p (v :: vs) H2 (e1.trans e2) (.cons (r1.up e2) r2)
    | exc c => rw [h2] at p; exact fun H2 e2 => p H2 (e1.trans e2)
    | bad => rw [h2] at p; exact p
  refine ⟨F, ρ, E, ?_⟩
  cases h1 : m ρ with
  | ok d => rw [h1] at p; exact fun v H1 e1 r1 => go d p v H1 e1 (.inl r1)
  | okm xs => rw [h1] at p; exact fun v H1 e1 r1 => go (.lst xs) p v H1 e1 (.inr ⟨xs, rfl, r1⟩)
  | exc c => rw [h1] at p; exact p
  | bad => rw [h1] at p; exact p
theorem pe_tupD (h : PA X es (tAs G W ms)) (hl : ∀ ρ ds, ms ρ = .ok ds → ds.length ≤ 1000) : PE X (.Tuple es k pos) (tE G W fun ρ => (ms ρ).bnd fun ds => .ok (.tup ds)) := PE.imp (pe_tup h) fun σ H Q h => by
  obtain ⟨F, ρ, E, p⟩ := h
  try dsimp only at p
  refine ⟨F, ρ, E, ?_⟩
  have hl := hl ρ
  cases h1 : ms ρ with
  | ok ds =>
    rw [h1] at p
    intro vs H1 e1 r1
    have z : vs.length ≤ sizeLine := by rw [r1.len, sizeLine_eq]; have := hl ds h1; omega
    exact ⟨z, fun q hq => p _ _ (e1.trans (same_upd hq)) (new_tup (E.up e1).dom hq z r1)⟩
  | exc c => rw [h1] at p; exact p
  | bad => rw [h1] at p; exact p
theorem pe_lstD (h : PA X es (tAs G W ms)) (hl : ∀ ρ ds, ms ρ = .ok ds → ds.length ≤ 1000) : PE X (.List es pos) (tE G W fun ρ => (ms ρ).bnd fun ds => .ok (.lst ds)) := PE.imp (pe_lst h) fun σ H Q h => by
  obtain ⟨F, ρ, E, p⟩ := h
  try dsimp only at p
  refine ⟨F, ρ, E, ?_⟩
  have hl := hl ρ
  cases h1 : ms ρ with
  | ok ds =>
    rw [h1] at p
    intro vs H1 e1 r1
    have z : vs.length ≤ sizeLine := by rw [r1.len, sizeLine_eq]; have := hl ds h1; omega
    exact ⟨z, fun q hq => p _ _ (e1.trans (same_upd hq)) (new_lst (E.up e1).dom hq z r1)⟩
  | exc c => rw [h1] at p; exact p
  | bad => rw [h1] at p; exact p
/-- a new list, for a name that holds it to be changed -/
def PostF (G : Ge) (F : Addr → Prop) (W : WX) (σ : VS) (H : Hp) (Q : VK) : R → Prop
  | .ok (.lst xs) => ∀ p vs H', H p = none → Same H H' → H' p = some (.lst vs) → vs.length ≤ sizeLine → RepL G (sol H' fun a => F a ∨ a = p) vs xs → Q (.ref p) H'
  | .ok _ => False
  | .okm _ => False
  | .exc c => ∀ H', Same H H' → W (.ref (G.ea c)) none σ H'
  | .bad => False
def tF (G : Ge) (W : WX) (m : En → R) : TE := fun σ H Q => ∃ F ρ, EnvE G F ρ σ H ∧ PostF G F W σ H Q (m ρ)
theorem new_sol {F : Addr → Prop} {H : Hp} {p : Addr} {o : HO} {vs : List V} {ds : List D} (hp : H p = none) (r : RepL G (sol H F) vs ds) : RepL G (sol (upd H p o) fun a => F a ∨ a = p) vs ds := by
  refine r.up fun b u e => ?_
  obtain ⟨f, e⟩ := sol_of e
  have ne : b ≠ p := ne_of_none e hp
  rw [sol_at (fun z => z.elim f ne), upd_ne ne]
  exact e
theorem pe_lstF (h : PA X es (tAs G W ms)) (hl : ∀ ρ ds, ms ρ = .ok ds → ds.length ≤ 1000) : PE X (.List es pos) (tF G W fun ρ => (ms ρ).bnd fun ds => .ok (.lst ds)) := PE.imp (pe_lst h) fun σ H Q h => by
  obtain ⟨F, ρ, E, p⟩ := h
  try dsimp only at p
  refine ⟨F, ρ, E, ?_⟩
  have hl := hl ρ
  cases h1 : ms ρ with
  | ok ds =>
    rw [h1] at p
    intro vs H1 e1 r1
    have z : vs.length ≤ sizeLine := by rw [r1.len, sizeLine_eq]; have := hl ds h1; omega
    exact ⟨z, fun q hq => p q vs _ (e1.free hq) (e1.trans (same_upd hq)) upd_same z (new_sol hq r1)⟩
  | exc c => rw [h1] at p; exact p
  | bad => rw [h1] at p; exact p
end

/-! ### items -/
theorem ixN_eq (n : Nat) (i : Int) : Dk.ixN n i = L2.ixN n i := rfl
theorem atI_eq {α : Type} (xs : List α) (i : Int) : Dk.atI xs i = L2.atI xs i := rfl
theorem RepL.at {G : Ge} {H : Hp} {vs : List V} {ds : List D} {i : Int} {d : D} (h : RepL G H vs ds) (e : Dk.atI ds i = some d) : ∃ v, L2.atI vs i = some v ∧ Rep G H v d := by
  unfold Dk.atI at e
  obtain ⟨j, h1, h2⟩ := Option.bind_eq_some_iff.mp e
  obtain ⟨v, h3, h4⟩ := h.get h2
  refine ⟨v, ?_, h4⟩
  unfold L2.atI
  rw [h.len, ← ixN_eq, h1]
  exact h3
section
variable {X : L2.Cx} {G : Ge} {W : WX} {a b : Expr} {pos : Pos} {ma mb : En → R}
theorem ixr (hK : X.K = G.K) : IxR X (r2D G W ixD) := IxR.by fun v u H Q ⟨F, d, d', σ, r1, r2, dom, h⟩ => by
  unfold ixD at h
  split at h
  · rename_i xs i
    obtain ⟨a1, v1, e1, s1, l1, q1, w1⟩ := r1.tup
    subst e1
    split at h
    · rename_i d e
      obtain ⟨w, h1, h2⟩ := q1.at e
      exact ⟨_, ix_tup, a1, v1, i, w, rfl, r2.int, by rw [hK]; exact s1, h1, h.ok h2⟩
    · exact h.elim
  · rename_i xs i
    obtain ⟨a1, v1, e1, s1, l1, q1⟩ := r1.lst
    subst e1
    split at h
    · rename_i d e
      obtain ⟨w, h1, h2⟩ := q1.at e
      exact ⟨_, ix_list, a1, v1, i, w, rfl, r2.int, .inl (.inl s1), h1, h.ok h2⟩
    · exact h.elim
  · rename_i xs i
    obtain ⟨a1, e1, s1, l1⟩ := r1.frz
    subst e1
    split at h
    · rename_i d e
      refine ⟨_, ix_list, a1, xs.map V.int, i, .int d, rfl, r2.int, by rw [hK]; exact s1, ?_, h.ok (.int _)⟩
      rw [← atI_eq]
      unfold Dk.atI at e ⊢
      obtain ⟨j, h1, h2⟩ := Option.bind_eq_some_iff.mp e
      rw [List.length_map, h1]
      show (xs.map V.int)[j]? = _
      rw [List.getElem?_map, h2]
      rfl
    · exact h.elim
  · rename_i xs i
    obtain ⟨e1, s1⟩ := r1.str
    split at h
    · rename_i c e
      have hm : c ∈ xs := by
        unfold Dk.atI at e
        obtain ⟨j, h1, h2⟩ := Option.bind_eq_some_iff.mp e
        exact List.mem_of_getElem? h2
      refine ⟨_, ix_str, sV xs, i, c, e1, r2.int, by rw [sV_len]; exact s1.len, by rw [← atI_eq]; exact e, ?_⟩
      exact Post.ok (d := .str [c]) h (.str [c] ⟨by rw [sizeLine_eq]; show 1 ≤ 16777216; decide, fun k hk => by rw [List.mem_singleton.mp hk]; exact s1.ch c hm⟩)
    · exact h.elim
  · exact h.elim
theorem pe_ixD (hK : X.K = G.K) (ha : PE X a (tE G W ma)) (hb : PE X b (tE G W mb)) (hs : PlainIx b) : PE X (.Subscript a b pos) (tE G W fun ρ => (ma ρ).bnd fun x => (mb ρ).bnd fun y => ixD x y) := PE.imp (pe_ix (ixr hK) ha hb hs) tE.bin'
end

/-! ### slices -/
theorem sIx_eq (n d : Nat) (o : Option Int) : Dk.sIx n d o = HT.sIx n d o := by cases o <;> rfl
theorem cut_eq (vs : List V) (lo hi : Option Int) : cutV vs lo hi = Dk.cut vs lo hi := by
  unfold cutV Dk.cut
  rw [sIx_eq, sIx_eq]
theorem cutS_eq (s : List Nat) (lo hi : Option Int) : cutS (sV s) lo hi = sV (Dk.cut s lo hi) := by
  unfold cutS Dk.cut sV
  rw [sIx_eq, sIx_eq]
  show (⟨_⟩ : Str) = ⟨_⟩
  rw [show (⟨s.toArray⟩ : Str).length = s.length from sV_len s]
theorem cut_len {α : Type} (xs : List α) (lo hi : Option Int) : (Dk.cut xs lo hi).length ≤ xs.length := by
  unfold Dk.cut
  rw [List.length_take, List.length_drop]
  omega
theorem cut_mem {α : Type} {xs : List α} {lo hi : Option Int} {x : α} (h : x ∈ Dk.cut xs lo hi) : x ∈ xs := List.mem_of_mem_drop (List.mem_of_mem_take h)
theorem RepL.cut {G : Ge} {H : Hp} {vs : List V} {ds : List D} (h : RepL G H vs ds) (lo hi : Option Int) : RepL G H (Dk.cut vs lo hi) (Dk.cut ds lo hi) := by
  unfold Dk.cut
  rw [h.len]
  exact (h.drop _).take _
/-- a part of a slice -/
def PostI (G : Ge) (W : WX) (σ : VS) (H : Hp) (Q : Option Int → Hp → Prop) : R → Prop
  | .ok (.int i) => ∀ H', Same H H' → Q (some i) H'
  | .exc c => ∀ H', Same H H' → W (.ref (G.ea c)) none σ H'
  | _ => False
def PostO (G : Ge) (F : Addr → Prop) (W : WX) (σ : VS) (H : Hp) (Q : Option Int → Hp → Prop) (m : Ex) (r : R) : Prop := if isO m = true then ∀ H', Same H H' → Q none H' else PostI G W σ H Q r
def tO (G : Ge) (W : WX) (m : Ex) (f : En → R) : TO := fun σ H Q => ∃ F ρ, EnvE G F ρ σ H ∧ PostO G F W σ H Q m (f ρ)
theorem PO.imp {X : L2.Cx} {e : Option Expr} {t t' : TO} (h : PO X e t) (k : ∀ σ H Q, t' σ H Q → t σ H Q) : PO X e t' := ⟨fun pins s σ H Q I q => h.run pins s σ H Q I (k σ H Q q)⟩
section
variable {X : L2.Cx} {G : Ge} {W : WX} {a : Expr} {lo hi : Option Expr} {pos p2 : Pos} {ma mb : En → R} {ml mh : Ex} {fl fh : En → R}
theorem po_noneD : PO X none (tO G W .omit fl) := PO.imp po_none fun σ H Q h => by
  obtain ⟨F, ρ, E, p⟩ := h
  unfold PostO at p
  rw [if_pos (show isO Ex.omit = true from rfl)] at p
  exact p H (Same.refl H)
theorem po_someD {m : Ex} {e : Expr} {f : En → R} (hm : isO m = false) (h : PE X e (tE G W f)) : PO X (some e) (tO G W m f) := PO.imp (po_some h) fun σ H Q h => by
  obtain ⟨F, ρ, E, p⟩ := h
  refine ⟨F, ρ, E, ?_⟩
  unfold PostO at p
  rw [if_neg (by rw [hm]; exact Bool.false_ne_true)] at p
  cases e1 : f ρ with
  | ok d =>
    rw [e1] at p
    cases d with
    | int i =>
      intro v H' e2 r
      cases r
      exact ⟨i, rfl, p H' e2⟩
    | _ => exact p.elim
  | okm xs => rw [e1] at p; exact p.elim
  | exc c => rw [e1] at p; exact p
  | bad => rw [e1] at p; exact p.elim
theorem PostO.of {F : Addr → Prop} {σ : VS} {H : Hp} {Q : VK} {m : Ex} {r : R} {g : Option Int → R} {K : Option Int → Hp → Prop} (p : Post G F W σ H Q (bndD m r g)) (k : ∀ o H', Same H H' → Post G F W σ H' Q (g o) → K o H') : PostO G F W σ H K m r := by
  unfold bndD at p
  unfold PostO
  cases hm : isO m with
  | true =>
    rw [hm, if_pos rfl] at p
    rw [if_pos rfl]
    exact fun H' e => k none H' e (Post.up (r := g none) p e)
  | false =>
    rw [hm, if_neg Bool.false_ne_true] at p
    rw [if_neg Bool.false_ne_true]
    cases r with
    | ok d =>
      cases d with
      | int i => exact fun H' e => k (some i) H' e (Post.up (r := g (some i)) p e)
      | _ => exact p.elim
    | okm xs => exact p.elim
    | exc c => exact p
    | bad => exact p.elim
theorem pe_slD (hK : X.K = G.K) (ha : PE X a (tE G W ma)) (hl : PO X lo (tO G W ml fl)) (hh : PO X hi (tO G W mh fh)) :
    PE X (.Subscript a (.Slice lo hi none p2) pos) (tE G W fun ρ => (ma ρ).bnd fun x => bndD ml (fl ρ) fun l => bndD mh (fh ρ) fun h => slD (fun xs => Dk.cut xs l h) x) := by
  have hr : SlR X (fun x l h H Q => ∃ F d σ, RepW G F H x d ∧ (∀ a, F a → ∃ o, H a = some o) ∧ Post G F W σ H Q (slD (fun xs => Dk.cut xs l h) d)) := by
    intro pins s σ H x v vl vu lo hi sl Q I rx hs pl pu q
    obtain ⟨F, d, σ', r1, dom, p⟩ := q
    unfold slD at p
    split at p
    · obtain ⟨a1, v1, e1, s1, l1, q1, w1⟩ := r1.tup
      subst e1
      refine sl_tupA pins s σ H _ v vl vu lo hi sl Q I rx hs pl pu ⟨a1, v1, rfl, by rw [hK]; exact s1, fun z => ?_, fun z q hq => ?_⟩
      · refine p.ok ?_
        rename_i xs
        have e : Dk.cut xs lo hi = xs := by
          unfold Dk.cut
          rw [sIx_eq, sIx_eq, ← q1.len, z.1, z.2, List.drop_zero, Nat.sub_zero, q1.len, List.take_length]
        dsimp only
        rw [e]; exact w1
      · refine p _ _ (same_upd hq) (new_tup dom hq ?_ ?_)
        · rw [cut_eq]; exact Nat.le_trans (cut_len _ _ _) l1
        · rw [cut_eq]; exact q1.cut lo hi
    · obtain ⟨a1, v1, e1, s1, l1, q1⟩ := r1.lst
      subst e1
      refine sl_list pins s σ H _ v vl vu lo hi sl Q I rx hs pl pu ⟨a1, v1, rfl, .inl (.inl s1), fun q hq => ?_⟩
      refine p _ _ (same_upd hq) (new_lst dom hq ?_ ?_)
      · rw [cut_eq]; exact Nat.le_trans (cut_len _ _ _) l1
      · rw [cut_eq]; exact q1.cut lo hi
    · obtain ⟨e1, s1⟩ := r1.str
      refine sl_str pins s σ H _ v vl vu lo hi sl Q I rx hs pl pu ⟨_, e1, by rw [sV_len]; exact s1.len, ?_⟩
      rw [cutS_eq]
      exact p.ok (.str _ (s1.sub (Nat.le_trans (cut_len _ _ _) s1.len) fun c => cut_mem))
    · exact p.elim
  refine PE.imp (pe_slice hr ha hl hh) fun σ H Q h => ?_
  obtain ⟨F, ρ, E, p⟩ := h
  try dsimp only at p
  refine ⟨F, ρ, E, Post.w p _ fun d v H' e q p' => ⟨F, ρ, E.up e, PostO.of p' fun l H2 e2 p2 => ⟨F, ρ, E.up (e.trans e2), PostO.of p2 fun h H3 e3 p3 => ?_⟩⟩⟩
  exact ⟨F, d, σ, q.up (e2.trans e3), (E.up ((e.trans e2).trans e3)).dom, p3⟩
end
end Dk

/-! Dk6: calls of the text's own defs; built-ins. -/
namespace Dk
open PySem PySem.Spec PyProof.Rows L2
/-- what is wanted behind a call -/
def PostC (G : Ge) (F : Addr → Prop) (H : Hp) (Q : VK) (E : XK) : R → Prop
  | .ok d => ∀ v H', Same H H' → Rep G (sol H' F) v d → Q v H'
  | .okm _ => False
  | .exc c => ∀ H', Same H H' → E (.ref (G.ea c)) none H'
  | .bad => False
/-- a def's promise: its np arguments stand for data, it comes to f of them -/
def spD (G : Ge) (np : Nat) (f : List D → R) : Sp := fun vs H Q E => vs.length = np ∧ ∃ F ds, RepL G (sol H F) vs ds ∧ (∀ a, F a → ∃ o, H a = some o) ∧ PostC G F H Q E (f ds)
section
variable {X : L2.Cx} {G : Ge} {W : WX} {e : Expr} {es : List Expr} {p pos : Pos} {x : Str} {ms : En → Rs} {f : List D → R} {k np i : Nat} {fa : Addr} {fd : FuncData} {ps : List Str}
/-- nothing but a value that stands by itself comes of a def -/
def noM : R → Prop
  | .okm _ => False
  | _ => True
theorem tAs.call (hn : ∀ ρ ds, ms ρ = .ok ds → f ds = .bad ∨ ds.length = np) (hm : ∀ ds, noM (f ds)) {σ : VS} {H : Hp} {Q : VK} (h : tE G W (fun ρ => (ms ρ).bnd f) σ H Q) : tCallSD (spD G np f) [] (WE W) (tAs G W ms) σ H Q := by
  obtain ⟨F, ρ, E, p⟩ := h
  try dsimp only at p
  refine ⟨F, ρ, E, ?_⟩
  have hn := hn ρ
  cases h1 : ms ρ with
  | ok ds =>
    rw [h1] at p
    replace p : Post G F W σ H Q (f ds) := p
    intro vs H1 e1 r1
    rw [List.append_nil]
    refine ⟨?_, F, ds, r1, (E.up e1).dom, ?_⟩
    · rcases hn ds h1 with z | z
      · rw [z] at p; exact p.elim
      · rw [r1.len]; exact z
    · replace p := Post.up p e1
      have m := hm ds
      cases h2 : f ds with
      | ok d => rw [h2] at p; exact p
      | okm xs => rw [h2] at m; exact m.elim
      | exc c => rw [h2] at p; exact p
      | bad => rw [h2] at p; exact p
  | exc c => rw [h1] at p; exact p
  | bad => rw [h1] at p; exact p
theorem pe_callD (hn : ∀ ds, f ds = .bad ∨ ds.length = np) (hm : ∀ ds, noM (f ds)) (Fk : FnOk X.prog X.w X.K X.mg X.base (L2.CX X.prog X.w) k fa fd ps (spD G np f)) (hr : Room k X.A) (hg : Gl X x) (hmg : X.mg x = some (.ref fa)) (hk : PySem.W.keepIn X.K (.ref fa) = true) (hb : Binds X.K fd ps []) (tk : Takes X W)
    (ha : PA X (e :: es) (tAs G W ms)) (hdb : (x == ("__debug__" : Str)) = false) (he : starEach (e :: es) X.env = (false, eval e X.env) :: starEach es X.env) (hpl : (backTo pos (starEach es X.env)).any (·.1) = false) :
    PE X (.Call (.Name x p) (e :: es) [] pos) (tE G W fun ρ => (ms ρ).bnd f) := PE.imp (pe_callSD Fk hr hg hmg hk hb .nil (fun σ => passAt tk σ) ha hdb he hpl) fun _ _ _ h => tAs.call (fun _ ds _ => hn ds) hm h
theorem pe_call0D (hn : ∀ ds, f ds = .bad ∨ ds.length = np) (hm : ∀ ds, noM (f ds)) (Fk : FnOk X.prog X.w X.K X.mg X.base (L2.CX X.prog X.w) k fa fd ps (spD G np f)) (hr : Room k X.A) (hg : Gl X x) (hmg : X.mg x = some (.ref fa)) (hk : PySem.W.keepIn X.K (.ref fa) = true) (hb : Binds X.K fd ps []) (tk : Takes X W)
    (hdb : (x == ("__debug__" : Str)) = false) : PE X (.Call (.Name x p) [] [] pos) (tE G W fun _ => (Rs.ok []).bnd f) := by
  refine ⟨fun pins s σ H Q I h => ?_⟩
  refine wpAny_Call_Name_kw (ld_glob I hg hmg ?_ hdb)
  refine PySem.W.callWith_K0 I.kIn hk ?_
  have h2 := tAs.call (ms := fun _ => .ok []) (fun _ ds _ => hn ds) hm h
  obtain ⟨F, ρ, E, p⟩ := h2
  exact run_fnSD (us := []) (vs := []) (E := WE W) Fk hr hb .nil (passAt tk σ) I .nil (p [] H (Same.refl H) .nil)
/-- a name of the frame that holds a def -/
theorem pe_callLD (hn : ∀ ds, f ds = .bad ∨ ds.length = np) (hm : ∀ ds, noM (f ds)) (Fk : FnOk X.prog X.w X.K X.mg X.base (L2.CX X.prog X.w) k fa fd ps (spD G np f)) (hr : Room k X.A) (hN : X.N[i]? = some x) (hv : Vis X.env.scope x) (hk : PySem.W.keepIn X.K (.ref fa) = true) (hb : Binds X.K fd ps []) (tk : Takes X W)
    (ha : PA X (e :: es) (tAs G W ms)) (hdb : (x == ("__debug__" : Str)) = false) (hcd : (x == ("__classdict__" : Str)) = false) (he : starEach (e :: es) X.env = (false, eval e X.env) :: starEach es X.env) (hpl : (backTo pos (starEach es X.env)).any (·.1) = false)
    {pins : List (Addr × Obj)} {s : Shared} {σ : VS} {H : Hp} {Q : VK} (I : Inv X pins σ H s) (hs : σ[i]? = some (some (.ref fa))) (h : tE G W (fun ρ => (ms ρ).bnd f) σ H Q) :
    wpAny (model X.prog X.w) X.A (eval (.Call (.Name x p) (e :: es) [] pos) X.env) (EP X pins σ Q) X.xe s := by
  refine wpAny_Call_Name_kw (thn ((pe_var (pos := p) hN hv hdb hcd).run pins s σ H (fun v H1 => v = .ref fa ∧ H1 = H) I ⟨.ref fa, hs, rfl, rfl⟩) fun u s1 ⟨v, H1, I1, r1, q1⟩ => ?_)
  obtain ⟨rfl, rfl⟩ := q1
  cases r1
  have ht := tAs.call (fun _ ds _ => hn ds) hm h
  refine PySem.W.callWith_K (h₀ := X.base) I.ok.mod.kin hk (thn (ha.run pos pins s1 σ _ _ I1 ht) fun us s2 ⟨vs, H2, I2, r, q⟩ => ⟨I2.kIn, ?_⟩) he hpl
  exact run_fnSD (E := WE W) Fk hr hb .nil (passAt tk σ) I2 r q

/-! ### built-ins -/
/-- of represented values what op says -/
def rsD (G : Ge) (W : WX) (op : List D → R) : List V → Hp → VK → Prop := fun vs H Q => ∃ F ds σ, RepWs G F H vs ds ∧ (∀ a, F a → ∃ o, H a = some o) ∧ Post G F W σ H Q (op ds)
theorem tAw.bi {op : List D → R} {σ : VS} {H : Hp} {Q : VK} (h : tE G W (fun ρ => (ms ρ).bnd op) σ H Q) : tCB (rsD G W op) (tAw G W ms) σ H Q := by
  obtain ⟨F, ρ, E, p⟩ := h
  try dsimp only at p
  refine ⟨F, ρ, E, ?_⟩
  cases h1 : ms ρ with
  | ok ds =>
    rw [h1] at p
    exact fun vs H1 e1 r1 => ⟨F, ds, σ, r1, (E.up e1).dom, Post.up (r := op ds) p e1⟩
  | exc c => rw [h1] at p; exact p
  | bad => rw [h1] at p; exact p
theorem pe_biB {id : String} {op : List D → R} (hc : CallR X (.builtin id) (rsD G W op)) (hg : Gl X x) (hm : X.mg x = none) (hv : bootBuiltins x = some (.builtin id)) (ha : PA X (e :: es) (tAw G W ms)) (hn : x ≠ "__name__") (hdb : (x == ("__debug__" : Str)) = false)
    (he : starEach (e :: es) X.env = (false, eval e X.env) :: starEach es X.env) (hpl : (backTo pos (starEach es X.env)).any (·.1) = false) : PE X (.Call (.Name x p) (e :: es) [] pos) (tE G W fun ρ => (ms ρ).bnd op) :=
  PE.imp (pe_callB hc hg hm hv ha hn hdb he hpl) fun _ _ _ h => tAw.bi h
theorem pe_biT {T : String} {op : List D → R} (hc : CallR X (.type T) (rsD G W op)) (hg : Gl X x) (hm : X.mg x = none) (hv : bootBuiltins x = some (.type T)) (ha : PA X (e :: es) (tAw G W ms)) (hn : x ≠ "__name__") (hdb : (x == ("__debug__" : Str)) = false)
    (he : starEach (e :: es) X.env = (false, eval e X.env) :: starEach es X.env) (hpl : (backTo pos (starEach es X.env)).any (·.1) = false) : PE X (.Call (.Name x p) (e :: es) [] pos) (tE G W fun ρ => (ms ρ).bnd op) :=
  PE.imp (pe_callTy hc hg hm hv ha hn hdb he hpl) fun _ _ _ h => tAw.bi h
theorem RepWs.one {F : Addr → Prop} {H : Hp} {vs : List V} {d : D} (h : RepWs G F H vs [d]) : ∃ v, vs = [v] ∧ RepW G F H v d := by
  cases h with
  | cons h1 h2 => cases h2; exact ⟨_, rfl, h1⟩
theorem RepWs.two {F : Addr → Prop} {H : Hp} {vs : List V} {d d' : D} (h : RepWs G F H vs [d, d']) : ∃ v u, vs = [v, u] ∧ RepW G F H v d ∧ RepW G F H u d' := by
  cases h with
  | cons h1 h2 => cases h2 with | cons h2 h3 => cases h3; exact ⟨_, _, rfl, h1, h2⟩
/-- one argument -/
theorem bi1 {fv : Value} {op : List D → R} (hop : ∀ ds, (∃ d, ds = [d]) ∨ op ds = .bad) (k : ∀ F H v d σ Q, RepW G F H v d → (∀ a, F a → ∃ o, H a = some o) → Post G F W σ H Q (op [d]) → ∃ r', CallR X fv r' ∧ r' [v] H Q) : CallR X fv (rsD G W op) := CallR.by fun vs H Q ⟨F, ds, σ, r, dom, h⟩ => by
  rcases hop ds with ⟨d, e⟩ | e
  · subst e
    obtain ⟨v, e2, r2⟩ := r.one
    subst e2
    exact k F H v d σ Q r2 dom h
  · rw [e] at h; exact h.elim
theorem bi2 {fv : Value} {op : List D → R} (hop : ∀ ds, (∃ d d', ds = [d, d']) ∨ op ds = .bad) (k : ∀ F H v u d d' σ Q, RepW G F H v d → RepW G F H u d' → (∀ a, F a → ∃ o, H a = some o) → Post G F W σ H Q (op [d, d']) → ∃ r', CallR X fv r' ∧ r' [v, u] H Q) : CallR X fv (rsD G W op) := CallR.by fun vs H Q ⟨F, ds, σ, r, dom, h⟩ => by
  rcases hop ds with ⟨d, d', e⟩ | e
  · subst e
    obtain ⟨v, u, e2, r2, r3⟩ := r.two
    subst e2
    exact k F H v u d d' σ Q r2 r3 dom h
  · rw [e] at h; exact h.elim
theorem bi_len (hK : X.K = G.K) : CallR X (.builtin "len") (rsD G W (biD .len)) := bi1 (fun ds => by match ds with | [] => exact .inr rfl | [d] => exact .inl ⟨d, rfl⟩ | _ :: _ :: _ => exact .inr rfl) fun F H v d σ Q r1 dom h => by
  replace h : Post G F W σ H Q (lenD d) := h
  unfold lenD at h
  split at h
  · obtain ⟨e1, s1⟩ := r1.str
    exact ⟨_, call_len, _, _, rfl, by subst e1; exact ⟨by rw [sV_len]; exact s1.len, rfl⟩, by rw [sV_len]; exact h.ok (.int _)⟩
  · obtain ⟨a1, v1, e1, s1, l1, q1, w1⟩ := r1.tup
    exact ⟨_, call_len, _, _, rfl, by subst e1; exact .inr ⟨v1, by rw [hK]; exact s1, rfl⟩, by rw [q1.len]; exact h.ok (.int _)⟩
  · obtain ⟨a1, v1, e1, s1, l1, q1⟩ := r1.lst
    exact ⟨_, call_len, _, _, rfl, by subst e1; exact .inl ⟨v1, .inl (.inl s1), rfl⟩, by rw [q1.len]; exact h.ok (.int _)⟩
  · rename_i xs
    obtain ⟨a1, e1, s1, l1⟩ := r1.frz
    exact ⟨_, call_len, _, _, rfl, by subst e1; exact .inl ⟨_, by rw [hK]; exact s1, rfl⟩, by rw [List.length_map]; exact h.ok (.int _)⟩
  · exact h.elim
theorem un_ds (ds : List D) : (∃ d, ds = [d]) ∨ ds = [] ∨ ∃ a b c, ds = a :: b :: c := by
  match ds with
  | [] => exact .inr (.inl rfl)
  | [d] => exact .inl ⟨d, rfl⟩
  | a :: b :: c => exact .inr (.inr ⟨a, b, c, rfl⟩)
end
end Dk

/-! Dk7: built-ins, methods of texts. -/
namespace Dk
open PySem PySem.Spec PyProof.Rows L2
section
variable {X : L2.Cx} {G : Ge} {W : WX}
theorem one_bad {op : List D → R} (h0 : op [] = .bad) (h2 : ∀ a b c, op (a :: b :: c) = .bad) (ds : List D) : (∃ d, ds = [d]) ∨ op ds = .bad := by
  match ds with
  | [] => exact .inr h0
  | [d] => exact .inl ⟨d, rfl⟩
  | a :: b :: c => exact .inr (h2 a b c)
theorem two_bad {op : List D → R} (h0 : op [] = .bad) (h1 : ∀ a, op [a] = .bad) (h2 : ∀ a b c d, op (a :: b :: c :: d) = .bad) (ds : List D) : (∃ d d', ds = [d, d']) ∨ op ds = .bad := by
  match ds with
  | [] => exact .inr h0
  | [a] => exact .inr (h1 a)
  | [d, e] => exact .inl ⟨d, e, rfl⟩
  | a :: b :: c :: d => exact .inr (h2 a b c d)
/-! ### sum, all -/
theorem call_sumT (hc : X.calm = true) : CallR X (.builtin "sum") (fun vs H Q => ∃ (a : Addr) (ns : List Int), vs = [V.ref a] ∧ SqT X.K H a (ns.map V.int) ∧ Q (.int ns.sum) H) := by
  intro pins s σ H vs us Q I r h
  obtain ⟨a, ns, rfl, hs, q⟩ := h
  obtain ⟨its, rv, hl, _⟩ := I.tuple hs
  rw [Vals.ref1 r]
  have hi := rv.ints
  obtain ⟨xs, e⟩ := hi.allInts.items
  have hn : numsOf (intItems xs).toList = ns := by rw [← e]; exact hi.numsOf
  rw [nums_intItems] at hn
  replace hl : s.heap.IsTuple a its.toArray := hl
  rw [e] at hl
  have hlt : a < s.heap.objs.size := by obtain ⟨o, e, _⟩ := hl; exact Heap.lt_size e
  refine PySem.call_sum_walkG (wpAny_pyIter_tuple hl ?_)
  refine ⟨s.heap.objs.size, [s.heap.objs.size, a], [s.heap.objs.size], (intItems xs).size, fun i v => (intItems xs)[i]? = some v, _, numAt xs, rfl, Walks.tuple (A := X.A.in1) (I.ok.hd hc) s.heap.objs.size a (Nat.ne_of_lt hlt) (intItems xs), ⟨⟨_, Heap.get?_push_size _ rfl, rfl, rfl⟩, hl.push _⟩, fun b hb => ?_, fun _ _ => intItems_at, fun h' tk t' hk => ?_⟩
  · show b < (s.heap.push _).objs.size
    rw [Heap.size_push]
    rcases List.mem_cons.mp hb with z | hb
    · rw [z]; exact Nat.lt_succ_self _
    · rw [List.mem_singleton.mp hb]; exact Nat.lt_succ_of_lt hlt
  · have e2 : preSum (numAt xs) (intItems xs).size = ns.sum := by
      have e3 : (intItems xs).size = xs.size := by simp [intItems]
      rw [e3, preSum_eq, List.take_of_length_le (by simp), hn]
    rw [e2]
    refine ⟨.int _, H, I.kept fun b o eo => hk b o (fun hmem => ?_) (Heap.get?_push_of_some _ eo), ⟨_, rfl⟩, q⟩
    rw [List.mem_singleton] at hmem
    exact absurd (hmem ▸ Heap.lt_size eo) (Nat.lt_irrefl _)
theorem bi_sum (hc : X.calm = true) (hK : X.K = G.K) : CallR X (.builtin "sum") (rsD G W (biD .sum)) := bi1 (one_bad rfl fun _ _ _ => rfl) fun F H v d σ Q r1 dom h => by
  replace h : Post G F W σ H Q (sumD d) := h
  unfold sumD at h
  split at h
  · rename_i ns e
    obtain ⟨xs, e1, e2⟩ := Option.bind_eq_some_iff.mp e
    have e3 := intsOf_eq e2
    subst e3
    cases d with
    | tup ys =>
      cases e1
      obtain ⟨a1, v1, e1, s1, l1, q1, w1⟩ := r1.tup
      subst e1
      rw [q1.ints] at s1
      exact ⟨_, call_sumT hc, a1, ns, rfl, by rw [hK]; exact s1, h.ok (.int _)⟩
    | lst ys =>
      cases e1
      obtain ⟨a1, v1, e1, s1, l1, q1⟩ := r1.lst
      subst e1
      rw [q1.ints] at s1
      exact ⟨_, cr_sum hc, a1, ns, rfl, .inl (.inl s1), h.ok (.int _)⟩
    | _ => cases e1
  · exact h.elim
theorem bi_all (hc : X.calm = true) : CallR X (.builtin "all") (rsD G W (biD .all)) := bi1 (one_bad rfl fun _ _ _ => rfl) fun F H v d σ Q r1 dom h => by
  replace h : Post G F W σ H Q (allD d) := h
  unfold allD at h
  split at h
  · rename_i xs
    split at h
    · rename_i bs e
      have e3 := blsOf_eq e
      subst e3
      obtain ⟨a1, v1, e1, s1, l1, q1⟩ := r1.lst
      subst e1
      rw [q1.bls] at s1
      exact ⟨_, cr_all hc, a1, bs, rfl, .inl (.inl s1), h.ok (.bl _)⟩
    · exact h.elim
  · exact h.elim
/-! ### tuple, list -/
theorem bi_tuple (hK : X.K = G.K) : CallR X (.type "tuple") (rsD G W (biD .tuple)) := bi1 (one_bad rfl fun a _ _ => by cases a <;> rfl) fun F H v d σ Q r1 dom h => by
  cases d with
  | tup xs =>
    replace h : Post G F W σ H Q (.ok (.tup xs)) := h
    obtain ⟨a1, v1, e1, s1, l1, q1, w1⟩ := r1.tup
    subst e1
    exact ⟨_, call_tuple_of, a1, v1, rfl, .inr ⟨by rw [hK]; exact s1, h.ok w1⟩⟩
  | lst xs =>
    replace h : Post G F W σ H Q (.ok (.tup xs)) := h
    obtain ⟨a1, v1, e1, s1, l1, q1⟩ := r1.lst
    subst e1
    exact ⟨_, call_tuple_of, a1, v1, rfl, .inl ⟨.inl (.inl s1), fun p hp => h _ _ (same_upd hp) (new_tup dom hp l1 q1)⟩⟩
  | _ => exact (show False from h).elim
theorem vals_signs : ∀ (xs : List Nat) (us : List Value), us.length = xs.length → (∀ (j : Nat) (v : Value), us[j]? = some v → ∃ c u, xs[j]? = some c ∧ v = .str ⟨#[c]⟩ u) → Vals (xs.map fun c => V.str (sV [c])) us
  | [], [], _, _ => .nil
  | [], _ :: _, h, _ => by simp at h
  | _ :: _, [], h, _ => by simp at h
  | c :: xs, u :: us, h, k => by
    obtain ⟨c', t, e1, e2⟩ := k 0 u rfl
    have e3 : c = c' := Option.some.inj e1
    subst e3 e2
    exact .cons ⟨t, rfl⟩ (vals_signs xs us (by simpa using h) fun j v e => k (j + 1) v e)
theorem sok_one {s : List Nat} (h : SOk s) {c : Nat} (hc : c ∈ s) : SOk [c] := ⟨by rw [sizeLine_eq]; show 1 ≤ 16777216; decide, fun k hk => by rw [List.mem_singleton.mp hk]; exact h.ch c hc⟩
theorem rep_signs {H : Hp} {s : List Nat} (h : SOk s) : RepL G H (s.map fun c => V.str (sV [c])) (s.map fun c => D.str [c]) := by
  have gen : ∀ (l : List Nat), (∀ c ∈ l, c ∈ s) → RepL G H (l.map fun c => V.str (sV [c])) (l.map fun c => D.str [c]) := fun l => by
    induction l with
    | nil => exact fun _ => .nil
    | cons c l ih => exact fun k => .cons (.str [c] (sok_one h (k c (List.mem_cons_self ..)))) (ih fun c' hc => k c' (List.mem_cons_of_mem _ hc))
  exact gen s fun _ hc => hc
theorem call_listStr (hc : X.calm = true) : CallR X (.type "list") (fun vs H Q => ∃ s : List Nat, vs = [V.str (sV s)] ∧ s.length ≤ sizeLine ∧ ∀ p, H p = none → Q (.ref p) (upd H p (.lst (s.map fun c => V.str (sV [c]))))) := by
  intro pins s σ H vs us Q I r h
  obtain ⟨z, rfl, hz, q⟩ := h
  obtain ⟨u, rfl, ru⟩ := Vals.one r
  obtain ⟨t, rfl⟩ := ru
  refine PySem.call_list_str (I.ok.hd hc) (sV z) t (hn := by show (sV z).length ≤ _; rw [sV_len]; exact hz) fun h' tk acc' c' hk hS' hacc => ?_
  have hl : acc'.toList.length = z.length := by rw [Array.length_toList, hacc.1]; exact sV_len z
  refine ⟨.ref s.heap.objs.size, _, I.laid (t' := tk) (o := .lst (z.map fun c => V.str (sV [c]))) hk (Nat.le_refl _) ?_, rfl, q _ (I.hok.fresh (Nat.le_refl _))⟩
  refine ⟨by rw [List.length_map]; exact hz, acc'.toList, c', vals_signs z _ hl fun j v e => ?_, ?_⟩
  · obtain ⟨c, u, e1, e2⟩ := hacc.2 j v (by rw [← Array.getElem?_toList]; exact e)
    exact ⟨c, u, by rw [← Array.getElem?_toList] at e1; exact e1, e2⟩
  · rw [hS']
theorem bi_list (hc : X.calm = true) (hK : X.K = G.K) : CallR X (.type "list") (rsD G W (biD .list)) := bi1 (one_bad rfl fun a _ _ => by cases a <;> rfl) fun F H v d σ Q r1 dom h => by
  cases d with
  | tup xs =>
    replace h : Post G F W σ H Q (.ok (.lst xs)) := h
    obtain ⟨a1, v1, e1, s1, l1, q1, w1⟩ := r1.tup
    subst e1
    exact ⟨_, call_list_of, a1, v1, rfl, .inr (by rw [hK]; exact s1), fun p hp => h _ _ (same_upd hp) (new_lst dom hp l1 q1)⟩
  | lst xs =>
    replace h : Post G F W σ H Q (.ok (.lst xs)) := h
    obtain ⟨a1, v1, e1, s1, l1, q1⟩ := r1.lst
    subst e1
    exact ⟨_, call_list_of, a1, v1, rfl, .inl (.inl (.inl s1)), fun p hp => h _ _ (same_upd hp) (new_lst dom hp l1 q1)⟩
  | str xs =>
    replace h : Post G F W σ H Q (.ok (.lst (xs.map fun c => .str [c]))) := h
    obtain ⟨e1, s1⟩ := r1.str
    subst e1
    exact ⟨_, call_listStr hc, xs, rfl, s1.len, fun p hp => h _ _ (same_upd hp) (new_lst dom hp (by rw [List.length_map]; exact s1.len) (rep_signs s1))⟩
  | _ => exact (show False from h).elim

/-! ### int, abs, min, max -/
theorem digs_val : ∀ (s : List Nat) (a : Nat) (n : Int), digs a s = some n → PySem.NumText.AllDigits s ∧ n = ((s.foldl (fun acc c => acc * 10 + (c - 48)) a : Nat) : Int)
  | [], a, n, h => ⟨fun c hc => absurd hc (by simp), (Option.some.inj h).symm⟩
  | c :: r, a, n, h => by
    unfold digs dig at h
    by_cases hc : 48 ≤ c ∧ c ≤ 57
    · rw [if_pos hc] at h
      have e : 10 * (a : Int) + ((c : Int) - 48) = ((a * 10 + (c - 48) : Nat) : Int) := by omega
      simp only [e] at h
      obtain ⟨h1, h2⟩ := digs_val r _ n h
      refine ⟨fun d hd => ?_, h2⟩
      rcases List.mem_cons.mp hd with e | hd
      · rw [e]; exact hc
      · exact h1 d hd
    · rw [if_neg hc] at h; cases h
theorem bi_int : CallR X (.type "int") (rsD G W (biD .int)) := bi1 (one_bad rfl fun _ _ _ => rfl) fun F H v d σ Q r1 dom h => by
  replace h : Post G F W σ H Q (intD d) := h
  unfold intD at h
  split at h
  · exact ⟨_, call_int1, .inl ⟨_, by rw [r1.int], h.ok (.int _)⟩⟩
  · exact ⟨_, call_int1, .inr ⟨_, by rw [r1.bl], h.ok (.int _)⟩⟩
  · rename_i c r
    obtain ⟨e1, s1⟩ := r1.str
    obtain ⟨z, h⟩ := if_ok (P := Post G F W σ H Q) h (fun z => z)
    split at h
    · rename_i n e
      obtain ⟨h1, h2⟩ := digs_val (c :: r) 0 n e
      have hl : (sV (c :: r)).length = r.length + 1 := by rw [sV_len]; rfl
      refine ⟨_, call_int_str, sV (c :: r), n, by rw [e1], ?_, by rw [hl]; omega, h.ok (.int _)⟩
      rw [intText_digits (x := sV (c :: r)) h1 (by simp [sV]) (by rw [hl]; omega)]
      rw [h2]
      rfl
    · exact h.elim
  · exact h.elim
theorem bi_abs : CallR X (.builtin "abs") (rsD G W (biD .abs)) := bi1 (one_bad rfl fun a _ _ => by cases a <;> rfl) fun F H v d σ Q r1 dom h => by
  cases d with
  | int i =>
    replace h : Post G F W σ H Q (.ok (.int (if i < 0 then -i else i))) := h
    exact ⟨_, call_abs, i, by rw [r1.int], h.ok (.int _)⟩
  | _ => exact (show False from h).elim

/-! ### isinstance -/
def tyN : D → String
  | .non => "NoneType" | .bl _ => "bool" | .int _ => "int" | .str _ => "str" | .tup _ => "tuple" | .lst _ => "list" | .frz _ => "list" | .fn _ => ""
def noFn : D → Bool
  | .fn _ => false
  | .frz _ => false
  | _ => true
theorem ty_of {F : Addr → Prop} {H : Hp} {v : V} {d : D} (r : RepW G F H v d) (n : noFn d = true) : TyX G.K H v (.type (tyN d)) := by
  cases d with
  | non => rw [r.non]; exact .base .non
  | bl b => rw [r.bl]; exact .base (.bl b)
  | int i => rw [r.int]; exact .base (.int i)
  | str s => rw [r.str.1]; exact .base (.str _)
  | tup xs =>
    obtain ⟨a1, v1, e1, s1, l1, q1, w1⟩ := r.tup
    subst e1
    rcases s1 with (h | ⟨o, h⟩) | ⟨o, its, n, h, c, _⟩
    · exact .base (.tup h)
    · exact .fTuple h
    · exact .kTuple h c
  | lst xs =>
    obtain ⟨a1, v1, e1, s1, l1, q1⟩ := r.lst
    subst e1
    exact .base (.lst s1)
  | frz _ => cases n
  | fn _ => cases n
def tyS : Ty → String
  | .int => "int" | .str => "str" | .tup => "tuple" | .bl => "bool" | .intstr => ""
theorem isi_one {d : D} {t : Ty} {b : Bool} (ht : t ≠ .intstr) (h : isiD d t = .ok (.bl b)) : noFn d = true ∧ kitB (tyN d) (tyS t) = some b := by
  cases d <;> cases t <;> first
    | exact absurd rfl ht
    | (cases h; done)
    | (cases h; exact ⟨rfl, by simp only [tyN, tyS]; decide +kernel⟩)
theorem isiD_ok (d : D) (t : Ty) : (∃ b, isiD d t = .ok (.bl b)) ∨ isiD d t = .bad := by
  cases d <;> cases t <;> first
    | exact .inl ⟨_, rfl⟩
    | exact .inr rfl
theorem isi_two {d : D} {b : Bool} (h : isiD d .intstr = .ok (.bl b)) : noFn d = true ∧ ∃ b1 b2, kitB (tyN d) "int" = some b1 ∧ kitB (tyN d) "str" = some b2 ∧ b = (b1 || b2) := by
  cases d <;> first
    | (cases h; done)
    | (cases h; exact ⟨rfl, true, true, by simp only [tyN]; decide +kernel, by simp only [tyN]; decide +kernel, rfl⟩)
    | (cases h; exact ⟨rfl, true, false, by simp only [tyN]; decide +kernel, by simp only [tyN]; decide +kernel, rfl⟩)
    | (cases h; exact ⟨rfl, false, true, by simp only [tyN]; decide +kernel, by simp only [tyN]; decide +kernel, rfl⟩)
    | (cases h; exact ⟨rfl, false, false, by simp only [tyN]; decide +kernel, by simp only [tyN]; decide +kernel, rfl⟩)
variable {a : Expr} {ma : En → R} {p p2 pos p3 : Pos} {x : Str}
theorem rep_kit {K : PySem.W.Frag} {t : Value} {a b : String} {b1 b2 : Bool} (h1 : PySem.W.kitOne K t (.type a) = some b1) (h2 : PySem.W.kitOne K t (.type b) = some b2) : PySem.W.kitAny K t [.type a, .type b] = some (b1 || b2) := by
  refine kitAny_cons h1 (fun e => kitAny_cons h2 (fun e2 => ?_) fun e2 => ?_) fun e => ?_
  · subst e e2; exact kitAny_nil
  · subst e e2; rfl
  · subst e; rfl
theorem pe_isiD (hK : X.K = G.K) {t : Ty} (ht : t ≠ .intstr) (hg : Gl X "isinstance") (hm : X.mg "isinstance" = none) (hg2 : Gl X (tyS t)) (hm2 : X.mg (tyS t) = none) (hb2 : bootBuiltins (tyS t) = some (.type (tyS t))) (hn2 : (tyS t : Str) ≠ "__name__") (hd2 : ((tyS t : Str) == ("__debug__" : Str)) = false) (ha : PE X a (tE G W ma)) (he : starEach [a, .Name (tyS t) p2] X.env = (false, eval a X.env) :: starEach [.Name (tyS t) p2] X.env) :
    PE X (.Call (.Name "isinstance" p) [a, .Name (tyS t) p2] [] pos) (tE G W fun ρ => (ma ρ).bnd fun d => isiD d t) := by
  have hty : PE X (.Name (tyS t) p2) (tC (.ty (tyS t))) := pe_bltn hg2 hm2 hb2 rfl hn2 hd2
  refine PE.imp (pe_callB call_isi hg hm boot_isinstance (pa_cons ha (pa_cons hty pa_nil) he) (by decide) (by decide) he rfl) fun σ H Q h => ?_
  obtain ⟨F, ρ, E, p⟩ := h
  try dsimp only at p
  refine ⟨F, ρ, E, Post.w p _ fun d v H' e q p' => ?_⟩
  rcases isiD_ok d t with ⟨b, e2⟩ | e2
  · obtain ⟨n, k⟩ := isi_one ht e2
    rw [e2] at p'
    exact ⟨v, .ty (tyS t), .type (tyN d), .type (tyS t), b, rfl, .ty _, by rw [hK]; exact ty_of q n, kit_ty k, p'.ok (.bl _)⟩
  · rw [e2] at p'; exact p'.elim
theorem pe_isi2D (hK : X.K = G.K) (hg : Gl X "isinstance") (hm : X.mg "isinstance" = none) (hg2 : Gl X "int") (hm2 : X.mg "int" = none) (hg3 : Gl X "str") (hm3 : X.mg "str" = none) (ha : PE X a (tE G W ma)) {k : Nat} {p4 : Pos}
    (he : starEach [a, .Tuple [.Name "int" p2, .Name "str" p3] k p4] X.env = (false, eval a X.env) :: starEach [.Tuple [.Name "int" p2, .Name "str" p3] k p4] X.env) :
    PE X (.Call (.Name "isinstance" p) [a, .Tuple [.Name "int" p2, .Name "str" p3] k p4] [] pos) (tE G W fun ρ => (ma ρ).bnd fun d => isiD d .intstr) := by
  have hi : PE X (.Name "int" p2) (tC (.ty "int")) := pe_bltn hg2 hm2 boot_int rfl (by decide) (by decide)
  have hs : PE X (.Name "str" p3) (tC (.ty "str")) := pe_bltn hg3 hm3 boot_str rfl (by decide) (by decide)
  have ht : PE X (.Tuple [.Name "int" p2, .Name "str" p3] k p4) _ := pe_tup (pa_cons hi (pa_cons hs pa_nil))
  refine PE.imp (pe_callB call_isiT hg hm boot_isinstance (pa_cons ha (pa_cons ht pa_nil) he) (by decide) (by decide) he rfl) fun σ H Q h => ?_
  obtain ⟨F, ρ, E, p⟩ := h
  try dsimp only at p
  refine ⟨F, ρ, E, Post.w p _ fun d v H' e q p' => ⟨by show 2 ≤ sizeLine; decide, fun tp htp => ?_⟩⟩
  rcases isiD_ok d .intstr with ⟨b, e2⟩ | e2
  · obtain ⟨n, b1, b2, k1, k2, eb⟩ := isi_two e2
    rw [e2] at p'
    refine ⟨v, tp, [.ty "int", .ty "str"], .type (tyN d), [.type "int", .type "str"], b, rfl, upd_same, .cons (.ty _) (.cons (.ty _) .nil), ?_, ?_, ?_⟩
    · rw [hK]; exact ty_of (q.up (same_upd htp)) n
    · rw [eb]; exact rep_kit (kit_ty k1) (kit_ty k2)
    · exact p' _ _ (same_upd htp) (.bl _)
  · rw [e2] at p'; exact p'.elim
end
end Dk

/-! Dk8: what is walked: lists, tuples, texts, ranges, enumerate and zip of any of them. -/
namespace Dk
open PySem PySem.Spec PyProof.Rows L2
theorem PI.by {X : L2.Cx} {tg e : Expr} {t : TI} (h : ∀ σ H R, t σ H R → ∃ t', PI X tg e t' ∧ t' σ H R) : PI X tg e t := ⟨fun pins s σ H R I q => let ⟨_, p, q'⟩ := h σ H R q; p.run pins s σ H R I q'⟩
/-- v's items are xs, wherever B stands -/
def SrcAt (K : PySem.W.Frag) (B : Hp) (v : V) (xs : List V) : Prop :=
  (∃ a, v = .ref a ∧ ∀ H, Same B H → SqL K H a xs) ∨ (∃ a, v = .ref a ∧ ∀ H, Same B H → SqT K H a xs) ∨ ∃ s : List Nat, v = .str (sV s) ∧ SOk s ∧ xs = s.map fun c => .str (sV [c])
/-- an iterator at it over xs, while PH holds -/
structure Src (P : Program) (w : World) (K : PySem.W.Frag) (PH : Hp → Prop) (xs : List V) (it : Addr) (tn : Nat → Heap → Prop) : Prop where
  obj : ∀ i h, tn i h → ∃ o, h.get? it = some o ∧ ∀ v, o.data ≠ .cell v
  keep : ∀ i h h', tn i h → (∀ o, h.get? it = some o → h'.get? it = some o) → tn i h'
  draws : ∀ (X : L2.Cx), X.prog = P → X.w = w → X.K = K → X.calm = true → ∀ (pins : List (Addr × Obj)) (s : Shared) (σ : VS) (H : Hp), Inv X pins σ H s → PH H → FpOk X pins H it → ∃ (fp : List Addr) (Pd : Nat → Value → Prop) (St : Nat → Heap → Prop), Draws P w X.A.in1 it fp xs.length Pd St ∧ it ∈ fp ∧
    (∀ i h, St i h → tn i h) ∧ (∀ i, tn i s.heap → St i s.heap) ∧ (∀ b ∈ fp, b = it ∨ ∀ c, FpOk X pins H c → c ≠ b) ∧ ∀ i v, Pd i v → ∃ x, xs[i]? = some x ∧ RelV x v
theorem sq_apart {X : L2.Cx} {pins : List (Addr × Obj)} {s : Shared} {σ : VS} {H : Hp} {a : Addr} (I : Inv X pins σ H s) (h : (∃ u, H a = some u) ∨ ∃ o, X.K.lookup a = some o) (c : Addr) (f : FpOk X pins H c) : c ≠ a := by
  intro e
  subst e
  rcases h with ⟨u, h⟩ | ⟨o, h⟩
  · rw [f.1] at h; cases h
  · have hb := I.ok.mod.kin c o h
    rcases f.2.2.2.1 with z | z
    · exact I.ok.noex c o hb z
    · have h1 := Heap.lt_size hb
      have h2 := I.ok.bsz
      exact absurd (Nat.lt_of_lt_of_le h1 (Nat.le_trans h2 z)) (Nat.lt_irrefl _)
theorem sqL_in {K : PySem.W.Frag} {H : Hp} {a : Addr} {xs : List V} (h : SqL K H a xs) : (∃ u, H a = some u) ∨ ∃ o, K.lookup a = some o := by
  rcases h with (h | ⟨o, h⟩) | ⟨o, its, n, h, _⟩
  · exact .inl ⟨_, h⟩
  · exact .inl ⟨_, h⟩
  · exact .inr ⟨_, h⟩
theorem sqT_in {K : PySem.W.Frag} {H : Hp} {a : Addr} {xs : List V} (h : SqT K H a xs) : (∃ u, H a = some u) ∨ ∃ o, K.lookup a = some o := by
  rcases h with (h | ⟨o, h⟩) | ⟨o, its, n, h, _⟩
  · exact .inl ⟨_, h⟩
  · exact .inl ⟨_, h⟩
  · exact .inr ⟨_, h⟩
theorem src_list {P : Program} {w : World} {K : PySem.W.Frag} {PH : Hp → Prop} {xs : List V} {a it : Addr} (hq : ∀ H, PH H → SqL K H a xs) : Src P w K PH xs it (fun i h => h.IsListIter it a i) where
  obj := fun i h st => by obtain ⟨o, ho, hc, hd⟩ := st; exact ⟨o, ho, fun v q => by rw [hd] at q; cases q⟩
  keep := fun i h h' st k => by obtain ⟨o, ho, hc, hd⟩ := st; exact ⟨o, k o ho, hc, hd⟩
  draws := by
    intro X hP hw hK hc pins s σ H I hH hf
    subst hP hw hK
    have q := hq H hH
    obtain ⟨its, rv, p, hz⟩ := I.list q
    have hap := sq_apart I (sqL_in q)
    have hl : xs.length = its.toArray.size := by rw [rv.length, List.size_toArray]
    rw [hl]
    refine ⟨[it, a], fun i v => its.toArray[i]? = some v, _, Draws.list (A := X.A.in1) (I.ok.hd hc) it a (Ne.symm (hap it hf)) its.toArray, by simp, fun i h st => st.1, fun i st => ⟨st, p.isList⟩, fun b hb => ?_, fun i v e => ?_⟩
    · rcases List.mem_cons.mp hb with z | z
      · exact .inl z
      · rw [List.mem_singleton.mp z]; exact .inr fun c f => hap c f
    · replace e : its[i]? = some v := by have e2 : its.toArray[i]? = some v := e; simpa using e2
      have hi : i < its.length := by
        by_cases hi : i < its.length
        · exact hi
        · rw [List.getElem?_eq_none (by omega)] at e; cases e
      obtain ⟨u, e2, r⟩ := rv.get (List.getElem?_eq_getElem (show i < xs.length by rw [rv.length]; exact hi))
      rw [e] at e2
      cases e2
      exact ⟨_, List.getElem?_eq_getElem _, r⟩
theorem src_tup {P : Program} {w : World} {K : PySem.W.Frag} {PH : Hp → Prop} {xs : List V} {a it : Addr} (hq : ∀ H, PH H → SqT K H a xs) : Src P w K PH xs it (fun i h => h.IsTupleIter it a i) where
  obj := fun i h st => by obtain ⟨o, ho, hc, hd⟩ := st; exact ⟨o, ho, fun v q => by rw [hd] at q; cases q⟩
  keep := fun i h h' st k => by obtain ⟨o, ho, hc, hd⟩ := st; exact ⟨o, k o ho, hc, hd⟩
  draws := by
    intro X hP hw hK hc pins s σ H I hH hf
    subst hP hw hK
    have q := hq H hH
    obtain ⟨its, rv, p, hz⟩ := I.tuple q
    have hap := sq_apart I (sqT_in q)
    have hl : xs.length = its.toArray.size := by rw [rv.length, List.size_toArray]
    rw [hl]
    refine ⟨[it, a], fun i v => its.toArray[i]? = some v, _, Draws.tuple (A := X.A.in1) (I.ok.hd hc) it a (Ne.symm (hap it hf)) its.toArray, by simp, fun i h st => st.1, fun i st => ⟨st, p⟩, fun b hb => ?_, fun i v e => ?_⟩
    · rcases List.mem_cons.mp hb with z | z
      · exact .inl z
      · rw [List.mem_singleton.mp z]; exact .inr fun c f => hap c f
    · replace e : its[i]? = some v := by have e2 : its.toArray[i]? = some v := e; simpa using e2
      have hi : i < its.length := by
        by_cases hi : i < its.length
        · exact hi
        · rw [List.getElem?_eq_none (by omega)] at e; cases e
      obtain ⟨u, e2, r⟩ := rv.get (List.getElem?_eq_getElem (show i < xs.length by rw [rv.length]; exact hi))
      rw [e] at e2
      cases e2
      exact ⟨_, List.getElem?_eq_getElem _, r⟩
theorem src_str {P : Program} {w : World} {K : PySem.W.Frag} {PH : Hp → Prop} {z : List Nat} {t : Tok} {it : Addr} : Src P w K PH (z.map fun c => V.str (sV [c])) it (fun i h => h.IsStrIter it (strIterType (sV z)) (sV z) t i) where
  obj := fun i h st => by obtain ⟨o, ho, hc, hd⟩ := st; exact ⟨o, ho, fun v q => by rw [hd] at q; cases q⟩
  keep := fun i h h' st k => by obtain ⟨o, ho, hc, hd⟩ := st; exact ⟨o, k o ho, hc, hd⟩
  draws := by
    intro X hP hw hK hc pins s σ H I hH hf
    subst hP hw hK
    have hl : (z.map fun c => V.str (sV [c])).length = (sV z).cps.size := by rw [List.length_map]; exact (sV_len z).symm
    rw [hl]
    refine ⟨[it], _, _, Draws.text (A := X.A.in1) (I.ok.hd hc) it (sV z) t, by simp, fun i h st => st, fun i st => st, fun b hb => .inl (List.mem_singleton.mp hb), fun i v e => ?_⟩
    obtain ⟨c, u, e1, e2⟩ := e
    refine ⟨.str (sV [c]), ?_, by rw [e2]; exact ⟨u, rfl⟩⟩
    have e3 : z[i]? = some c := by rw [← Array.getElem?_toList] at e1; exact e1
    rw [List.getElem?_map, e3]
    rfl

/-! ### enumerate -/
def IteG (PH : Hp → Prop) (xs : List V) : L2.It := ⟨fun i H => PH H ∧ i < xs.length, fun i H v H' => ∃ T x, v = .ref T ∧ H T = none ∧ H' = upd H T (.tup [.int (i : Nat), x]) ∧ xs[i]? = some x, fun i H => PH H ∧ i = xs.length⟩
theorem turn_enumG {P : Program} {w : World} {K : PySem.W.Frag} {elts : List Expr} {kk : Nat} {tpos : Pos} {PH : Hp → Prop} {xs : List V} {e it : Addr} {tnS : Nat → Heap → Prop} (S : Src P w K PH xs it tnS) :
    Turn P w K (.Tuple elts kk tpos) (IteG PH xs) [e, it] e (fun i h => (∃ old, IsEnum h e it ((i : Nat) : Int) old) ∧ tnS i h ∧ e ≠ it) where
  mem := by simp
  obj := fun i h st b hb => by
    obtain ⟨⟨old, he⟩, hi, _⟩ := st
    have e' : b = e ∨ b = it := by simpa using hb
    rcases e' with z | z
    · rw [z]; exact ⟨_, he, fun v q => nomatch q⟩
    · rw [z]; exact S.obj i h hi
  keep := fun i h h' st k => let ⟨⟨old, he⟩, hi, hne⟩ := st; ⟨⟨old, k e (by simp) _ he⟩, S.keep _ _ _ hi fun o q => k it (by simp) o q, hne⟩
  item := by
    intro X hP hw hK hc i pins s σ H E I hf st hg
    obtain ⟨fp, Pd, St, D, hmem, toT, ofT, hap, hx⟩ := S.draws X hP hw hK hc pins s σ H I hg.1 (hf it (by simp))
    subst hP hw hK
    obtain ⟨⟨old, he⟩, hit, hne⟩ := st
    have hef : e ∉ fp := fun hm => by
      rcases hap e hm with z | z
      · exact hne z
      · exact z e (hf e (by simp)) rfl
    have hel : e < s.heap.objs.size := Heap.lt_size he
    have hil : it < s.heap.objs.size := by obtain ⟨_, q, _⟩ := S.obj _ _ hit; exact Heap.lt_size q
    refine wpAny_pyNext_enum_itemD D he (ofT i hit) hg.2 hne hef fun u h' tk hPd ho hSt hT hsz hk => ?_
    obtain ⟨x, hxi, ru⟩ := hx i u hPd
    have hit' := toT _ _ hSt
    refine ⟨_, rfl, wpAny_letOwnedTupleGo_enum (s := { s with heap := h', toks := tk + 1 }) ho fun h'' he' sb => ?_⟩
    have hT2 : h''.get? s.heap.objs.size = some { cls := .type "tuple", data := .seq #[.int i tk, u] } := (sb.2 _ (Nat.ne_of_gt hel)).trans hT
    have new : ObjOk X.prog X.w (upd H s.heap.objs.size (.tup [.int (i : Nat), x])) h'' s.heap.objs.size (.tup [.int (i : Nat), x]) :=
      ⟨by show 2 ≤ sizeLine; decide, [.int i tk, u], .cons ⟨_, rfl⟩ (.cons ru .nil), ⟨_, hT2, rfl, _, rfl⟩⟩
    have I1 : Inv X pins σ (upd H s.heap.objs.size (.tup [.int (i : Nat), x])) { s with heap := h'', toks := tk + 1 } :=
      I.turnedNew (ch := [e, it]) (fun b ob hb q => (sb.2 b (fun z => hb (by simp [z]))).trans (hk b ob (fun z => hb (by simp [z])) (fun z => hb (by simp [z])) q)) hf (Nat.le_refl _) new
    refine ⟨.ref s.heap.objs.size, _, I1, rfl, ⟨_, x, rfl, I.hok.fresh (Nat.le_refl _), rfl, hxi⟩, ⟨⟨u, ?_⟩, S.keep _ _ _ hit' fun o q => (sb.2 it (Ne.symm hne)).trans q, hne⟩, fun b hb => ?_⟩
    · have e1 : ((i + 1 : Nat) : Int) = (i : Int) + 1 := by omega
      rw [e1]; exact he'
    · have hb' : b < s.heap.objs.size := by
        have e' : b = e ∨ b = it := by simpa using hb
        rcases e' with z | z
        · rw [z]; exact hel
        · rw [z]; exact hil
      rw [upd_ne (Nat.ne_of_lt hb')]
      exact (hf b hb).1
  done := by
    intro X hP hw hK hc i pins s σ H E I hf st hg
    obtain ⟨fp, Pd, St, D, hmem, toT, ofT, hap, hx⟩ := S.draws X hP hw hK hc pins s σ H I hg.1 (hf it (by simp))
    subst hP hw hK
    obtain ⟨⟨old, he⟩, hit, hne⟩ := st
    obtain ⟨f0, f1, f2, f3, f4, f5⟩ := hf it (by simp)
    have e0 := hg.2
    refine wpAny_pyNext_enum_endD D he (by rw [← e0]; exact ofT i hit) fun h' eb => ⟨rfl, I.turned (t' := s.toks) (fun b o hb q => eb b o hb q) f0 f1 f3 f4 f5⟩
  self := fun A i s Q E st h => let ⟨⟨_, he⟩, _⟩ := st; wpAny_pyIter_enum he h
theorem meets_enumB1 {v : Value} {o : Obj} {HB : Heap → Prop} (B : Begins v o HB) :
    Meets (Builtin.«enumerate.__new__» ⟨[.type "enumerate", v], []⟩) (fun _ R s => HB s.heap ∧
      R (.ok (.ret (.ref (s.heap.push o).objs.size))) { s with heap := (s.heap.push o).push { cls := .type "enumerate", data := .fields #[.none, .bool false, .ref s.heap.objs.size, rawInt 0, .none, .none] } }) :=
  .of_wp fun prog w A R s h => by
    obtain ⟨hp, g, d, tk, os⟩ := s; obtain ⟨h1, h⟩ := h
    have hsub := sub_enumerate
    have q1 : ∀ {A' : Around} {E : Value → Shared → Prop} {Q : Value → Shared → Prop}, Q (.ref hp.objs.size) ⟨hp.push o, g, d, tk, os⟩ → wpAny (model prog w) A' (pyIter v) Q E ⟨hp, g, d, tk, os⟩ :=
      fun q => B.iter prog w _ _ ⟨hp, g, d, tk, os⟩ _ h1 q
    wp_walk using q1
    refine wpAny_stack_any fun st => wpAny_pure ?_
    split
    · rename_i c _ _ _ _ _
      cases (c == Value.type "enumerate")
      · wp_walk using q1
        exact ⟨_, rfl, h⟩
      · wp_walk using q1
        exact ⟨_, rfl, h⟩
    · wp_walk using q1
      exact ⟨_, rfl, h⟩
theorem enum_begins1 {prog : Program} {w : World} {A : Around} {E : Value → Shared → Prop} {s : Shared} {v : Value} {o : Obj} {HB : Heap → Prop} {Q : Value → Shared → Prop} (B : Begins v o HB) (h1 : HB s.heap)
    (h : ∀ h', IsEnum h' (s.heap.objs.size + 1) s.heap.objs.size 0 .none → h'.get? s.heap.objs.size = some o → h'.objs.size = s.heap.objs.size + 2 →
      (∀ b o, s.heap.get? b = some o → h'.get? b = some o) → Q (.ref (s.heap.objs.size + 1)) { s with heap := h' }) :
    wpAny (model prog w) A (call (.type "enumerate") [v]) Q E s := by
  refine callType_new F.called_enumerate (by decide) (F.typeCall_enumerate_1 _) (F.newCall_enumerate_1 _) (fun obj => F.args_object_init_2 obj _) F.entry_enumerate_new
    (meets_enumB1 B) ⟨h1, ?_⟩
  have hz : (s.heap.push o).objs.size = s.heap.objs.size + 1 := Heap.size_push ..
  show _ ∧ _
  rw [hz]
  have he : IsEnum ((s.heap.push o).push { cls := .type "enumerate", data := .fields #[.none, .bool false, .ref s.heap.objs.size, rawInt 0, .none, .none] }) (s.heap.objs.size + 1) s.heap.objs.size 0 .none := by
    have := Heap.get?_push_size (s.heap.push o) (o := { cls := .type "enumerate", data := .fields #[.none, .bool false, .ref s.heap.objs.size, rawInt 0, .none, .none] }) rfl
    rw [hz] at this; exact this
  refine ⟨⟨_, he, rfl⟩, h _ he (Heap.get?_push_of_some _ (Heap.get?_push_size _ B.free)) (by rw [Heap.size_push, hz]) fun b o x => Heap.get?_push_of_some _ (Heap.get?_push_of_some _ x)⟩
/-- where a source begins -/
theorem src_begins {X : L2.Cx} {pins : List (Addr × Obj)} {σ : VS} {H B : Hp} {s : Shared} {v : V} {u : Value} {xs : List V} (I : Inv X pins σ H s) (hs : SrcAt X.K B v xs) (hB : Same B H) (r : RelV v u) :
    ∃ (o : Obj) (HB : Heap → Prop), Begins u o HB ∧ HB s.heap ∧ ∀ (it : Addr), ∃ tn : Nat → Heap → Prop, Src X.prog X.w X.K (Same B) xs it tn ∧ ∀ h : Heap, h.get? it = some o → tn 0 h := by
  rcases hs with ⟨a, e, hq⟩ | ⟨a, e, hq⟩ | ⟨z, e, hz, ex⟩
  · subst e
    cases (show u = .ref a from r)
    obtain ⟨its, rv, p, _⟩ := I.list (hq H hB)
    exact ⟨_, _, begins_list a its.toArray, p.isList, fun it => ⟨_, src_list hq, fun h e => ⟨_, e, rfl, rfl⟩⟩⟩
  · subst e
    cases (show u = .ref a from r)
    obtain ⟨its, rv, p, _⟩ := I.tuple (hq H hB)
    exact ⟨_, _, begins_tuple a its.toArray, p, fun it => ⟨_, src_tup hq, fun h e => ⟨_, e, rfl, rfl⟩⟩⟩
  · subst e ex
    obtain ⟨t, e⟩ := (show ∃ t, u = .str (sV z) t from r)
    subst e
    exact ⟨_, _, begins_text (sV z) t, trivial, fun it => ⟨_, src_str, fun h e => ⟨_, e, rfl, rfl⟩⟩⟩
section
variable {X : L2.Cx} {tg : Expr}
def iEnumG (K : PySem.W.Frag) (ta : TA) : TI := fun σ H R => ta σ H fun vs H1 => ∃ v B xs, vs = [v] ∧ SrcAt K B v xs ∧ Same B H1 ∧ R (IteG (Same B) xs) H1
theorem pi_enumG {e : Expr} {ta : TA} {p pos tpos : Pos} {elts : List Expr} {kk : Nat} (hg : Gl X "enumerate") (hm : X.mg "enumerate" = none) (ha : PA X [e] ta) (hs : starEach [e] X.env = [(false, eval e X.env)]) :
    PI X (.Tuple elts kk tpos) (.Call (.Name "enumerate" p) [e] [] pos) (iEnumG X.K ta) := by
  refine ⟨fun pins s σ H R I h => ?_⟩
  refine Call_ (ld_blt I hg hm boot_enumerate (PyProof.Rows.callWith_type1 (thn (ha.run pos pins s σ H _ I h) fun us s1 ⟨vs, H1, I1, r1, q1⟩ => ?_) hs rfl))
  obtain ⟨v, B, xs, ex, hsrc, hB, q⟩ := q1
  subst ex
  obtain ⟨u, rfl, ru⟩ := Vals.one r1
  obtain ⟨o, HB, Bg, h1, hT⟩ := src_begins I1 hsrc hB ru
  refine enum_begins1 Bg h1 fun h' he hit hsz hk => wpAny_pyIter_enum he ?_
  have I2 : Inv X pins σ H1 { s1 with heap := h' } := I1.kept (t' := s1.toks) hk
  obtain ⟨tn, S, h0⟩ := hT s1.heap.objs.size
  refine ⟨s1.heap.objs.size + 1, [s1.heap.objs.size + 1, s1.heap.objs.size], _, _, H1, rfl, I2, turn_enumG S, ⟨⟨.none, he⟩, h0 _ hit, Nat.succ_ne_self _⟩, fun b hb => ?_, q⟩
  have e' : b = s1.heap.objs.size + 1 ∨ b = s1.heap.objs.size := by simpa using hb
  have hle : s1.heap.objs.size ≤ b := by
    rcases e' with z | z
    · rw [z]; exact Nat.le_add_right _ _
    · rw [z]; exact Nat.le_refl _
  exact I1.fpOk hle (I1.hok.fresh hle)
end
/-! ### zip -/
def ItzG (PH : Hp → Prop) (xs ys : List V) : L2.It := ⟨fun i H => PH H ∧ i < xs.length ∧ i < ys.length, fun i H v H' => ∃ T x y, v = .ref T ∧ H T = none ∧ H' = upd H T (.tup [x, y]) ∧ xs[i]? = some x ∧ ys[i]? = some y,
  fun i H => PH H ∧ i ≤ xs.length ∧ i ≤ ys.length ∧ (i = xs.length ∨ i = ys.length)⟩
structure Ap5 (z TI TO i1 i2 : Addr) : Prop where
  TIz : TI ≠ z
  TOz : TO ≠ z
  TITO : TI ≠ TO
  TIi1 : TI ≠ i1
  TIi2 : TI ≠ i2
  zi1 : z ≠ i1
  zi2 : z ≠ i2
  Ti1 : TO ≠ i1
  Ti2 : TO ≠ i2
  i12 : i1 ≠ i2
theorem turn_zipG {P : Program} {w : World} {K : PySem.W.Frag} {elts : List Expr} {kk : Nat} {tpos : Pos} {PH : Hp → Prop} {xs ys : List V} {z TI TO i1 i2 : Addr} {tn1 tn2 : Nat → Heap → Prop} (S1 : Src P w K PH xs i1 tn1) (S2 : Src P w K PH ys i2 tn2) (D : Ap5 z TI TO i1 i2) :
    Turn P w K (.Tuple elts kk tpos) (ItzG PH xs ys) [z, TI, TO, i1, i2] z (fun i h => IsZip h z TI TO .none ∧ IsTupOf2 h TI (.ref i1) (.ref i2) ∧ (∃ x y, IsTupOf2 h TO x y) ∧ tn1 i h ∧ tn2 i h) where
  mem := by simp
  obj := fun i h st c hc => by
    obtain ⟨hz, hTI, ⟨x, y, hTO⟩, h1, h2⟩ := st
    have e' : c = z ∨ c = TI ∨ c = TO ∨ c = i1 ∨ c = i2 := by simpa using hc
    rcases e' with q | q | q | q | q
    · rw [q]; exact ⟨_, hz, fun v q => nomatch q⟩
    · rw [q]; exact ⟨_, hTI, fun v q => nomatch q⟩
    · rw [q]; exact ⟨_, hTO, fun v q => nomatch q⟩
    · rw [q]; exact S1.obj _ _ h1
    · rw [q]; exact S2.obj _ _ h2
  keep := fun i h h' st k => by
    obtain ⟨hz, hTI, ⟨x, y, hTO⟩, h1, h2⟩ := st
    exact ⟨k z (by simp) _ hz, k TI (by simp) _ hTI, ⟨x, y, k TO (by simp) _ hTO⟩, S1.keep _ _ _ h1 fun o q => k i1 (by simp) o q, S2.keep _ _ _ h2 fun o q => k i2 (by simp) o q⟩
  item := by
    intro X hP hw hK hc i pins s σ H E I hf st hg
    obtain ⟨fp1, P1, St1, D1, m1, toT1, ofT1, hap1, hx1⟩ := S1.draws X hP hw hK hc pins s σ H I hg.1 (hf i1 (by simp))
    obtain ⟨fp2, P2, St2, D2, m2, toT2, ofT2, hap2, hx2⟩ := S2.draws X hP hw hK hc pins s σ H I hg.1 (hf i2 (by simp))
    subst hP hw hK
    obtain ⟨hz, hTI, ⟨x0, y0, hTO⟩, h1, h2⟩ := st
    have nf : ∀ {fp : List Addr} {it : Addr}, (∀ b ∈ fp, b = it ∨ ∀ c, FpOk X pins H c → c ≠ b) → ∀ c ∈ [z, TI, TO, i1, i2], c ≠ it → c ∉ fp := fun hap c hc hne hm => by
      rcases hap c hm with q | q
      · exact hne q
      · exact q c (hf c hc) rfl
    have SP : ZipSep2 z TI TO i1 i2 fp1 fp2 := ⟨D.TIz, D.TOz, D.TITO, D.TIi1, m1, nf hap1 z (by simp) D.zi1, nf hap1 TO (by simp) D.Ti1, D.TIi2, m2, nf hap2 z (by simp) D.zi2, nf hap2 TO (by simp) D.Ti2, nf hap2 i1 (by simp) D.i12, nf hap1 i2 (by simp) (Ne.symm D.i12)⟩
    have hzl : z < s.heap.objs.size := Heap.lt_size hz
    refine wpAny_pyNext_zipD2_item SP D1 D2 hz hTI hTO (ofT1 _ h1) (ofT2 _ h2) hg.2.1 hg.2.2 fun u u2 h' tk p1 p2 z' TO' q1 q2 hT hsz hk => ?_
    obtain ⟨x, hx, ru⟩ := hx1 i u p1
    obtain ⟨y, hy, ru2⟩ := hx2 i u2 p2
    refine ⟨_, rfl, wpAny_letOwnedTupleGo_zip (s := { s with heap := h', toks := tk }) z' fun h'' z'' sb => ?_⟩
    have hT2 : h''.get? s.heap.objs.size = some { cls := .type "tuple", data := .seq #[u, u2] } := (sb.2 _ (Nat.ne_of_gt hzl)).trans hT
    have new : ObjOk X.prog X.w (upd H s.heap.objs.size (.tup [x, y])) h'' s.heap.objs.size (.tup [x, y]) :=
      ⟨by show 2 ≤ sizeLine; decide, [u, u2], .cons ru (.cons ru2 .nil), ⟨_, hT2, rfl, _, rfl⟩⟩
    have I1 : Inv X pins σ (upd H s.heap.objs.size (.tup [x, y])) { s with heap := h'', toks := tk } :=
      I.turnedNew (ch := [z, TI, TO, i1, i2]) (fun c o hb q => (sb.2 c (fun q' => hb (by simp [q']))).trans (hk c o (fun q' => hb (by simp [q'])) (fun q' => hb (by simp [q'])) (fun q' => hb (by simp [q'])) (fun q' => hb (by simp [q'])) q)) hf (Nat.le_refl _) new
    refine ⟨.ref s.heap.objs.size, _, I1, rfl, ⟨_, x, y, rfl, I.hok.fresh (Nat.le_refl _), rfl, hx, hy⟩, ⟨z'', ?_, ⟨u, u2, ?_⟩, ?_, ?_⟩, fun c hcm => ?_⟩
    · exact (sb.2 _ D.TIz).trans (hk _ _ D.TIz D.TITO D.TIi1 D.TIi2 hTI)
    · exact (sb.2 _ D.TOz).trans TO'
    · exact S1.keep _ _ _ (toT1 _ _ q1) fun o q => (sb.2 _ (Ne.symm D.zi1)).trans q
    · exact S2.keep _ _ _ (toT2 _ _ q2) fun o q => (sb.2 _ (Ne.symm D.zi2)).trans q
    · have hlt : c < s.heap.objs.size := by
        have e' : c = z ∨ c = TI ∨ c = TO ∨ c = i1 ∨ c = i2 := by simpa using hcm
        rcases e' with q | q | q | q | q
        · rw [q]; exact hzl
        · rw [q]; exact Heap.lt_size hTI
        · rw [q]; exact Heap.lt_size hTO
        · rw [q]; obtain ⟨_, e1, _⟩ := S1.obj _ _ h1; exact Heap.lt_size e1
        · rw [q]; obtain ⟨_, e2, _⟩ := S2.obj _ _ h2; exact Heap.lt_size e2
      rw [upd_ne (Nat.ne_of_lt hlt)]
      exact (hf c hcm).1
  done := by
    intro X hP hw hK hc i pins s σ H E I hf st hg
    obtain ⟨fp1, P1, St1, D1, m1, toT1, ofT1, hap1, hx1⟩ := S1.draws X hP hw hK hc pins s σ H I hg.1 (hf i1 (by simp))
    obtain ⟨fp2, P2, St2, D2, m2, toT2, ofT2, hap2, hx2⟩ := S2.draws X hP hw hK hc pins s σ H I hg.1 (hf i2 (by simp))
    subst hP hw hK
    obtain ⟨hz, hTI, ⟨x0, y0, hTO⟩, h1, h2⟩ := st
    have nf : ∀ {fp : List Addr} {it : Addr}, (∀ b ∈ fp, b = it ∨ ∀ c, FpOk X pins H c → c ≠ b) → ∀ c ∈ [z, TI, TO, i1, i2], c ≠ it → c ∉ fp := fun hap c hc hne hm => by
      rcases hap c hm with q | q
      · exact hne q
      · exact q c (hf c hc) rfl
    have SP : ZipSep2 z TI TO i1 i2 fp1 fp2 := ⟨D.TIz, D.TOz, D.TITO, D.TIi1, m1, nf hap1 z (by simp) D.zi1, nf hap1 TO (by simp) D.Ti1, D.TIi2, m2, nf hap2 z (by simp) D.zi2, nf hap2 TO (by simp) D.Ti2, nf hap2 i1 (by simp) D.i12, nf hap1 i2 (by simp) (Ne.symm D.i12)⟩
    exact wpAny_pyNext_zipD2_end SP D1 D2 hz hTI hTO (ofT1 _ h1) (ofT2 _ h2) hg.2.1 hg.2.2.1 hg.2.2.2 fun h' tk hk => ⟨rfl, I.turnedL (t' := tk) (ch := [z, TI, TO, i1, i2]) (fun c o hb q =>
      hk c o (fun q' => hb (by simp [q'])) (fun q' => hb (by simp [q'])) (fun q' => hb (by simp [q'])) (fun q' => hb (by simp [q'])) q) hf⟩
  self := fun A i s Q E st h => wpAny_pyIter_zip st.1 h
section
variable {X : L2.Cx} {tg : Expr}
def iZipG (K : PySem.W.Frag) (ta : TA) : TI := fun σ H R => ta σ H fun vs H1 => ∃ v u B xs ys, vs = [v, u] ∧ SrcAt K B v xs ∧ SrcAt K B u ys ∧ Same B H1 ∧ R (ItzG (Same B) xs ys) H1
theorem pi_zipG {e e2 : Expr} {ta : TA} {p pos tpos : Pos} {elts : List Expr} {kk : Nat} (hg : Gl X "zip") (hm : X.mg "zip" = none) (ha : PA X [e, e2] ta) (hs : starEach [e, e2] X.env = (false, eval e X.env) :: starEach [e2] X.env) (hpl : (backTo pos (starEach [e2] X.env)).any (·.1) = false) :
    PI X (.Tuple elts kk tpos) (.Call (.Name "zip" p) [e, e2] [] pos) (iZipG X.K ta) := by
  refine ⟨fun pins s σ H R I h => ?_⟩
  refine Call_ (ld_blt I hg hm PyProof.Rows.boot_zip (PyProof.Rows.callWith_type1 (thn (ha.run pos pins s σ H _ I h) fun us s1 ⟨vs, H1, I1, r1, q1⟩ => ?_) hs hpl))
  obtain ⟨v, v2, B, xs, ys, ex, hsrc, hsrc2, hB, q⟩ := q1
  subst ex
  obtain ⟨u, u2, rfl, ru, ru2⟩ := Vals.two r1
  obtain ⟨o, HB, Bg, h1, hT⟩ := src_begins I1 hsrc hB ru
  obtain ⟨o2, HB2, Bg2, h2, hT2⟩ := src_begins I1 hsrc2 hB ru2
  refine zip_begins2 Bg Bg2 h1 h2 fun h' hz hTI hTO g1 g2 hsz hk => wpAny_pyIter_zip hz ?_
  have I2 : Inv X pins σ H1 { s1 with heap := h' } := I1.kept (t' := s1.toks) hk
  obtain ⟨tn, S, h0⟩ := hT s1.heap.objs.size
  obtain ⟨tn2, S2, h02⟩ := hT2 (s1.heap.objs.size + 1)
  refine ⟨s1.heap.objs.size + 4, [s1.heap.objs.size + 4, s1.heap.objs.size + 2, s1.heap.objs.size + 3, s1.heap.objs.size, s1.heap.objs.size + 1], _, _, H1, rfl, I2, turn_zipG (TI := s1.heap.objs.size + 2) (TO := s1.heap.objs.size + 3) S S2 ?_, ⟨hz, hTI, ⟨_, _, hTO⟩, h0 _ g1, h02 _ g2⟩, fun c hcm => ?_, q⟩
  · constructor <;> simp [Addr] <;> omega
  · have e' : c = s1.heap.objs.size + 4 ∨ c = s1.heap.objs.size + 2 ∨ c = s1.heap.objs.size + 3 ∨ c = s1.heap.objs.size ∨ c = s1.heap.objs.size + 1 := by simpa using hcm
    have hle : s1.heap.objs.size ≤ c := by
      rcases e' with z | z | z | z | z
      · rw [z]; exact Nat.le_add_right _ _
      · rw [z]; exact Nat.le_add_right _ _
      · rw [z]; exact Nat.le_add_right _ _
      · rw [z]; exact Nat.le_refl _
      · rw [z]; exact Nat.le_add_right _ _
    exact I1.fpOk hle (I1.hok.fresh hle)
end
end Dk

/-! Dk9: readings of what is walked. -/
namespace Dk
open PySem PySem.Spec PyProof.Rows L2
/-- J walks ds: S the solid part as the walk begins, B what has to stand -/
def Wlk (G : Ge) (S B : Hp) (J : L2.It) (ds : List D) : Prop := L2.Walk J ds.length (fun H => Same B H) (fun i H x H' => Same H H' ∧ ∃ d, ds[i]? = some d ∧ ∀ F' : Addr → Prop, (∀ a, F' a → ∃ o, H a = some o) → Same S (sol H F') → Rep G (sol H' F') x d)
noncomputable def bse (w : Bool) (H : Hp) (F : Addr → Prop) : Hp := if w = true then H else sol H F
theorem sol_bse {w : Bool} {H : Hp} {F : Addr → Prop} : Same (sol H F) (bse w H F) := by
  cases w with
  | true => exact sol_le
  | false => exact Same.refl _
theorem bse_le {w : Bool} {H : Hp} {F : Addr → Prop} : Same (bse w H F) H := by
  cases w with
  | true => exact Same.refl _
  | false => exact sol_le
def PostK (G : Ge) (F : Addr → Prop) (W : WX) (w : Bool) (σ : VS) (H : Hp) (Q : L2.It → Hp → Prop) : Wk → Prop
  | .ok ds => ∀ J H', Same H H' → Wlk G (sol H' F) (bse w H' F) J ds → ds.length ≤ sizeLine → Q J H'
  | .exc c => ∀ H', Same H H' → W (.ref (G.ea c)) none σ H'
  | .bad => False
def tI (G : Ge) (W : WX) (w : Bool) (m : En → Wk) : TI := fun σ H Q => ∃ F ρ, EnvE G F ρ σ H ∧ PostK G F W w σ H Q (m ρ)
section
variable {G : Ge} {S B : Hp} {J : L2.It} {ds es : List D} {xs ys : List V}
theorem RepL.getV : ∀ {vs : List V} {ds : List D} {i : Nat} {v : V}, RepL G S vs ds → vs[i]? = some v → ∃ d, ds[i]? = some d ∧ Rep G S v d
  | _, _, _, _, .nil, e => by simp at e
  | _, _, 0, _, .cons h _, e => by simp at e; subst e; exact ⟨_, rfl, h⟩
  | _, _, i + 1, _, .cons _ t, e => by
    obtain ⟨v, h1, h2⟩ := RepL.getV (i := i) t (by simpa using e)
    exact ⟨v, by simpa using h1, h2⟩
theorem wlk_at {Gd : Hp → Prop} (w : L2.Walk J xs.length Gd (YAt xs)) (hG : ∀ H, Same B H → Gd H) (r : RepL G S xs ds) : Wlk G S B J ds := by
  unfold Wlk
  rw [← r.len]
  refine w.mono hG fun i H x H' hi g y => ?_
  obtain ⟨e, hx⟩ := y
  subst e
  obtain ⟨d, hd, rd⟩ := r.getV hx
  exact ⟨Same.refl _, d, hd, fun F' dom sm => rd.up sm⟩
theorem rep_pair {H : Hp} {F' : Addr → Prop} {T : Addr} {x y : V} {d e : D} (dom : ∀ a, F' a → ∃ o, H a = some o) (hT : H T = none) (r1 : Rep G (sol H F') x d) (r2 : Rep G (sol H F') y e) : Rep G (sol (upd H T (.tup [x, y])) F') (.ref T) (.tup [d, e]) :=
  new_tup dom hT (by show 2 ≤ sizeLine; decide) (.cons r1 (.cons r2 .nil))
theorem enumD_at : ∀ (ds : List D) (k i : Nat) (d : D), ds[i]? = some d → (enumD k ds)[i]? = some (.tup [.int ((k + i : Nat) : Int), d])
  | [], _, _, _, h => by simp at h
  | x :: r, k, 0, d, h => by simp at h; subst h; rfl
  | x :: r, k, i + 1, d, h => by
    show (enumD (k + 1) r)[i]? = _
    rw [enumD_at r (k + 1) i d (by simpa using h)]
    have e : k + 1 + i = k + (i + 1) := by omega
    rw [e]
theorem enumD_len : ∀ (ds : List D) (k : Nat), (enumD k ds).length = ds.length
  | [], _ => rfl
  | x :: r, k => congrArg Nat.succ (enumD_len r (k + 1))
theorem zipD_at : ∀ (ds es : List D) (i : Nat) (d e : D), ds[i]? = some d → es[i]? = some e → (zipD ds es)[i]? = some (.tup [d, e])
  | [], _, _, _, _, h, _ => by simp at h
  | _ :: _, [], _, _, _, _, h => by simp at h
  | x :: r, y :: t, 0, d, e, h, k => by simp at h k; subst h k; rfl
  | x :: r, y :: t, i + 1, d, e, h, k => zipD_at r t i d e (by simpa using h) (by simpa using k)
theorem zipD_len : ∀ (ds es : List D), (zipD ds es).length = min ds.length es.length
  | [], _ => by simp [zipD]
  | _ :: _, [] => by simp [zipD]
  | x :: r, y :: t => by simp only [zipD, List.length_cons, zipD_len r t]; omega
theorem wlk_enum (r : RepL G S xs ds) : Wlk G S B (IteG (Same B) xs) (enumD 0 ds) := by
  unfold Wlk
  rw [enumD_len, ← r.len]
  refine ⟨fun i H hi g => ⟨g, hi⟩, fun H g => ⟨g, rfl⟩, fun i H x H' hi g y => ?_⟩
  obtain ⟨T, z, e1, hT, e2, hz⟩ := y
  subst e1 e2
  obtain ⟨d, hd, rd⟩ := r.getV hz
  refine ⟨same_upd hT, _, enumD_at ds 0 i d hd, fun F' dom sm => ?_⟩
  rw [Nat.zero_add]
  exact rep_pair dom hT (.int _) (rd.up sm)
theorem wlk_zip (r : RepL G S xs ds) (r2 : RepL G S ys es) : Wlk G S B (ItzG (Same B) xs ys) (zipD ds es) := by
  unfold Wlk
  rw [zipD_len, ← r.len, ← r2.len]
  refine ⟨fun i H hi g => ⟨g, by omega, by omega⟩, fun H g => ⟨g, by omega, by omega, by omega⟩, fun i H x H' hi g y => ?_⟩
  obtain ⟨T, z, z2, e1, hT, e2, hz, hz2⟩ := y
  subst e1 e2
  obtain ⟨d, hd, rd⟩ := r.getV hz
  obtain ⟨d2, hd2, rd2⟩ := r2.getV hz2
  exact ⟨same_upd hT, _, zipD_at ds es i d d2 hd hd2, fun F' dom sm => rep_pair dom hT (rd.up sm) (rd2.up sm)⟩
/-- lo, lo + c, .. -/
theorem wlk_rng {lo c : Int} {n : Nat} : Wlk G S B (Itc lo c n) ((List.range n).map fun k => .int (lo + (k : Nat) * c)) := by
  unfold Wlk
  rw [List.length_map, List.length_range]
  refine (walk_rangeC (lo := lo) (c := c) (n := n)).mono (fun _ _ => trivial) fun i H x H' hi g y => ?_
  obtain ⟨e1, e2⟩ := y
  subst e1 e2
  refine ⟨Same.refl _, .int (lo + (i : Nat) * c), ?_, fun F' _ _ => .int _⟩
  rw [List.getElem?_map, List.getElem?_range hi]
  rfl
theorem wlk_rng1 {lo : Int} {n : Nat} : Wlk G S B (Itr lo n) ((List.range n).map fun k => .int (lo + (k : Nat) * 1)) := by
  unfold Wlk
  rw [List.length_map, List.length_range]
  refine (walk_range (lo := lo) (n := n)).mono (fun _ _ => trivial) fun i H x H' hi g y => ?_
  obtain ⟨e1, e2⟩ := y
  subst e1 e2
  refine ⟨Same.refl _, .int (lo + (i : Nat) * 1), ?_, fun F' _ _ => by rw [Int.mul_one]; exact .int _⟩
  rw [List.getElem?_map, List.getElem?_range hi]
  rfl
theorem wlk_str {z : List Nat} (hz : SOk z) : Wlk G S B (Its (sV z)) (z.map fun c => .str [c]) := by
  unfold Wlk
  rw [List.length_map, show z.length = (sV z).cps.size from (sV_len z).symm]
  refine (walk_str (z := sV z)).mono (fun _ _ => trivial) fun i H x H' hi g y => ?_
  obtain ⟨e1, c, hc, e2⟩ := y
  subst e1 e2
  have e3 : z[i]? = some c := by rw [← Array.getElem?_toList] at hc; exact hc
  refine ⟨Same.refl _, .str [c], ?_, fun F' _ _ => .str [c] (sok_one hz (List.mem_of_getElem? e3))⟩
  rw [List.getElem?_map, e3]
  rfl
end
section
variable {G : Ge} {F : Addr → Prop} {H : Hp} {v : V} {d : D} {ds : List D}
def RepX (w : Bool) (G : Ge) (F : Addr → Prop) (H : Hp) (v : V) (d : D) : Prop := if w = true then RepW G F H v d else Rep G (sol H F) v d
theorem RepX.w {w : Bool} (r : RepX w G F H v d) : RepW G F H v d := by
  cases w with
  | true => exact r
  | false => exact .inl r
theorem src_tupD {w : Bool} {xs : List D} (r : RepX w G F H v (.tup xs)) : ∃ a vs, v = .ref a ∧ (∀ H', Same (bse w H F) H' → SqT G.K H' a vs) ∧ RepL G (sol H F) vs xs ∧ xs.length ≤ sizeLine := by
  cases w with
  | true =>
    obtain ⟨a1, v1, e1, s1, l1, q1, w1⟩ := r.w.tup
    exact ⟨a1, v1, e1, fun H' h => SqT.same h s1, q1, by rw [← q1.len]; exact l1⟩
  | false =>
    have r' : Rep G (sol H F) v (.tup xs) := r
    cases r' with
    | tup h1 h2 h3 => exact ⟨_, _, rfl, fun H' h => SqT.same h h1, h3, by rw [← h3.len]; exact h2⟩
theorem src_lstD {w : Bool} {xs : List D} (r : RepX w G F H v (.lst xs)) : ∃ a vs, v = .ref a ∧ (∀ H', Same (bse w H F) H' → SqL G.K H' a vs) ∧ RepL G (sol H F) vs xs ∧ xs.length ≤ sizeLine := by
  cases w with
  | true =>
    obtain ⟨a1, v1, e1, s1, l1, q1⟩ := r.w.lst
    exact ⟨a1, v1, e1, fun H' h => .inl (.inl (h _ _ s1)), q1, by rw [← q1.len]; exact l1⟩
  | false =>
    have r' : Rep G (sol H F) v (.lst xs) := r
    cases r' with
    | lst h1 h2 h3 => exact ⟨_, _, rfl, fun H' h => .inl (.inl (h _ _ h1)), h3, by rw [← h3.len]; exact h2⟩
theorem src_of {w : Bool} (r : RepX w G F H v d) (e : walkD d = .ok ds) : ∃ xs, SrcAt G.K (bse w H F) v xs ∧ RepL G (sol H F) xs ds ∧ ds.length ≤ sizeLine := by
  cases d with
  | str s =>
    cases e
    obtain ⟨e1, s1⟩ := r.w.str
    exact ⟨_, .inr (.inr ⟨s, e1, s1, rfl⟩), rep_signs s1, by rw [List.length_map]; exact s1.len⟩
  | tup xs =>
    cases e
    obtain ⟨a, vs, e1, h, q, l⟩ := src_tupD r
    exact ⟨vs, .inr (.inl ⟨a, e1, h⟩), q, l⟩
  | lst xs =>
    cases e
    obtain ⟨a, vs, e1, h, q, l⟩ := src_lstD r
    exact ⟨vs, .inl ⟨a, e1, h⟩, q, l⟩
  | _ => cases e
end
section
variable {X : L2.Cx} {G : Ge} {W : WX} {w : Bool} {tg a b c : Expr} {m ma mb mc : En → R} {p pos tpos : Pos} {elts : List Expr} {kk : Nat}
theorem PI.imp {tg e : Expr} {t t' : TI} (h : PI X tg e t) (k : ∀ σ H Q, t' σ H Q → t σ H Q) : PI X tg e t' := ⟨fun pins s σ H Q I q => h.run pins s σ H Q I (k σ H Q q)⟩
/-- its value, as strict as w says -/
theorem toW_post {F : Addr → Prop} {σ : VS} {H : Hp} {Q : L2.It → Hp → Prop} {r : R} {f : D → Wk} (h : PostK G F W w σ H Q (r.toW w f)) (K : VK) (k : ∀ d v H', Same H H' → RepX w G F H' v d → PostK G F W w σ H Q (f d) → K v H') : Post G F W σ H K r := by
  cases r with
  | ok d =>
    refine fun v H' e q => k d v H' e ?_ h
    cases w with
    | true => exact .inl q
    | false => exact q
  | okm xs =>
    cases w with
    | true => exact fun v H' e q => k (.lst xs) v H' e (.inr ⟨xs, rfl, q⟩) h
    | false => exact False.elim h
  | exc c => exact h
  | bad => exact h
/-- what a value that is walked comes to -/
theorem toW_cases {F : Addr → Prop} {σ : VS} {H : Hp} {Q : L2.It → Hp → Prop} {r : R} {f : D → Wk} (h : PostK G F W w σ H Q (r.toW w f)) : (∃ d, (∀ K : VK, (∀ v H', Same H H' → RepX w G F H' v d → K v H') → Post G F W σ H K r) ∧ PostK G F W w σ H Q (f d)) ∨ ∃ c, r = .exc c ∧ ∀ H', Same H H' → W (.ref (G.ea c)) none σ H' := by
  cases r with
  | ok d =>
    refine .inl ⟨d, fun K k v H' e q => k v H' e ?_, h⟩
    cases w with
    | true => exact .inl q
    | false => exact q
  | okm xs =>
    cases w with
    | true => exact .inl ⟨.lst xs, fun K k v H' e q => k v H' e (.inr ⟨xs, rfl, q⟩), h⟩
    | false => exact False.elim h
  | exc c => exact .inr ⟨c, rfl, h⟩
  | bad => exact False.elim h
theorem pi_valD (hK : X.K = G.K) (ha : PE X a (tE G W m)) : PI X tg a (tI G W w fun ρ => (m ρ).toW w walkD) := PI.by fun σ H R h => by
  obtain ⟨F, ρ, E, p⟩ := h
  try dsimp only at p
  rcases toW_cases p with ⟨d, post, p⟩ | ⟨c, e, p⟩
  · cases d with
    | tup xs =>
      refine ⟨_, pi_tup ha, F, ρ, E, post _ fun v H' e r => ?_⟩
      obtain ⟨a, vs, e1, hq, q, l⟩ := src_tupD r
      rw [hK]
      exact ⟨a, e1, ⟨vs, hq H' bse_le⟩, p _ H' e (wlk_at walk_tup hq q) l⟩
    | lst xs =>
      refine ⟨_, pi_list ha, F, ρ, E, post _ fun v H' e r => ?_⟩
      obtain ⟨a, vs, e1, hq, q, l⟩ := src_lstD r
      rw [hK]
      exact ⟨a, e1, ⟨vs, hq H' bse_le⟩, p _ H' e (wlk_at walk_list hq q) l⟩
    | str xs =>
      refine ⟨_, pi_str ha, F, ρ, E, post _ fun v H' e r => ?_⟩
      obtain ⟨e1, s1⟩ := r.w.str
      exact ⟨sV xs, e1, p _ H' e (wlk_str s1) (by rw [List.length_map]; exact s1.len)⟩
    | _ => exact False.elim p
  · exact ⟨_, pi_list ha, F, ρ, E, by rw [e]; exact p⟩
/-- of one written argument -/
theorem tAx {σ : VS} {H : Hp} {F : Addr → Prop} {ρ : En} {d : D} (E : EnvE G F ρ σ H) (post : ∀ K : VK, (∀ v H', Same H H' → RepX w G F H' v d → K v H') → Post G F W σ H K (m ρ)) (ha : PE X a (tE G W m)) (hs : starEach [a] X.env = (false, eval a X.env) :: starEach [] X.env) (K : List V → Hp → Prop)
    (k : ∀ v H', Same H H' → RepX w G F H' v d → K [v] H') : ∃ ta, PA X [a] ta ∧ ta σ H K :=
  ⟨_, pa_cons ha pa_nil hs, F, ρ, E, post _ fun v H' e r => k v H' e r⟩
theorem pi_enumD (hK : X.K = G.K) (ha : PE X a (tE G W m)) (hg : Gl X "enumerate") (hm : X.mg "enumerate" = none) (hs : starEach [a] X.env = (false, eval a X.env) :: starEach [] X.env) : PI X (.Tuple elts kk tpos) (.Call (.Name "enumerate" p) [a] [] pos) (tI G W w fun ρ => ((m ρ).toW w walkD).enum) := PI.by fun σ H R h => by
  obtain ⟨F, ρ, E, p⟩ := h
  try dsimp only at p
  have hs1 : starEach [a] X.env = [(false, eval a X.env)] := hs
  have p2 : PostK G F W w σ H R ((m ρ).toW w fun d => (walkD d).enum) := by
    cases e : m ρ <;> rw [e] at p <;> first | exact p | (cases w <;> exact p)
  rcases toW_cases p2 with ⟨d, post, p⟩ | ⟨c, e, p⟩
  · have hd : ∃ ds, walkD d = .ok ds := by cases d <;> first | exact ⟨_, rfl⟩ | exact False.elim p
    obtain ⟨ds, hd⟩ := hd
    obtain ⟨ta, hta, q⟩ := tAx E post ha hs (fun vs H1 => ∃ v B xs, vs = [v] ∧ SrcAt X.K B v xs ∧ Same B H1 ∧ R (IteG (Same B) xs) H1) fun v H' e r => by
      obtain ⟨xs, hsrc, hr, l⟩ := src_of r hd
      rw [hd] at p
      rw [hK]
      exact ⟨v, _, xs, rfl, hsrc, bse_le, p _ H' e (wlk_enum hr) (by rw [enumD_len]; exact l)⟩
    exact ⟨_, pi_enumG hg hm hta hs1, q⟩
  · exact ⟨_, pi_enumG hg hm (pa_cons ha pa_nil hs) hs1, F, ρ, E, by rw [e]; exact p⟩
theorem pi_zipD (hK : X.K = G.K) (ha : PE X a (tE G W ma)) (hb : PE X b (tE G W mb)) (hg : Gl X "zip") (hm : X.mg "zip" = none) (hs : starEach [a, b] X.env = (false, eval a X.env) :: starEach [b] X.env) (hs2 : starEach [b] X.env = (false, eval b X.env) :: starEach [] X.env) (hpl : (backTo pos (starEach [b] X.env)).any (·.1) = false) :
    PI X (.Tuple elts kk tpos) (.Call (.Name "zip" p) [a, b] [] pos) (tI G W w fun ρ => (ma ρ).toW w fun x => (mb ρ).toW w fun y => zipW x y) := PI.by fun σ H R h => by
  obtain ⟨F, ρ, E, p⟩ := h
  try dsimp only at p
  refine ⟨_, pi_zipG hg hm (pa_cons ha (pa_cons hb pa_nil hs2) hs) hs hpl, F, ρ, E, ?_⟩
  refine toW_post p _ fun d v H' e r p' => ?_
  refine ⟨F, ρ, E.up e, ?_⟩
  have p2 : PostK G F W w σ H' R ((mb ρ).toW w fun y => zipW d y) := by
    cases h2 : (mb ρ).toW w fun y => zipW d y with
    | ok ds => rw [h2] at p'; exact fun J H2 e2 => p' J H2 (e.trans e2)
    | exc c => rw [h2] at p'; exact fun H2 e2 => p' H2 (e.trans e2)
    | bad => rw [h2] at p'; exact p'
  refine toW_post p2 _ fun d2 u H2 e2 r2 p3 => ?_
  have up : ∀ {xs}, SrcAt G.K (bse w H' F) v xs → SrcAt G.K (bse w H2 F) v xs := fun {xs} hs => by
    have sm : Same (bse w H' F) (bse w H2 F) := by
      cases w with
      | true => exact e2
      | false => exact sol_up e2
    rcases hs with ⟨a, e1, hq⟩ | ⟨a, e1, hq⟩ | hs
    · exact .inl ⟨a, e1, fun H3 h3 => hq H3 (sm.trans h3)⟩
    · exact .inr (.inl ⟨a, e1, fun H3 h3 => hq H3 (sm.trans h3)⟩)
    · exact .inr (.inr hs)
  have fin : ∀ ds ds2, walkD d = .ok ds → walkD d2 = .ok ds2 → zipW d d2 = .ok (zipD ds ds2) → ∃ v1 u1 B xs ys, [v, u] = [v1, u1] ∧ SrcAt X.K B v1 xs ∧ SrcAt X.K B u1 ys ∧ Same B H2 ∧ R (ItzG (Same B) xs ys) H2 := fun ds ds2 h1 h2 h3 => by
    obtain ⟨xs, s1, q1, l1⟩ := src_of r h1
    obtain ⟨ys, s2, q2, l2⟩ := src_of r2 h2
    rw [h3] at p3
    rw [hK]
    exact ⟨v, u, _, xs, ys, rfl, up s1, s2, bse_le, p3 _ H2 e2 (wlk_zip (q1.up (sol_up e2)) q2) (by rw [zipD_len]; omega)⟩
  cases d <;> cases d2 <;> first
    | exact False.elim p3
    | exact fin _ _ rfl rfl rfl
theorem PostK.up {F : Addr → Prop} {σ : VS} {H H' : Hp} {Q : L2.It → Hp → Prop} : ∀ {r : Wk}, PostK G F W w σ H Q r → Same H H' → PostK G F W w σ H' Q r
  | .ok _, h, e => fun J H2 e2 => h J H2 (e.trans e2)
  | .exc _, h, e => fun H2 e2 => h H2 (e.trans e2)
  | .bad, h, _ => h
theorem rng_len {f : Nat → D} {i j k : Int} (hk : 0 < k) (hl : j - i ≤ (lim : Nat)) : ((List.range ((j - i + k - 1) / k).toNat).map f).length ≤ sizeLine := by
  rw [List.length_map, List.length_range, ← lim_eq]
  have h1 : (j - i + k - 1) / k ≤ (lim : Nat) := by
    rw [Int.ediv_le_iff_le_mul hk]
    have h2 : ((lim : Nat) : Int) * 1 ≤ ((lim : Nat) : Int) * k := Int.mul_le_mul_of_nonneg_left (by omega) (by omega)
    by_cases h3 : j - i ≤ 0
    · have : (0 : Int) ≤ ((lim : Nat) : Int) * k := Int.mul_nonneg (by omega) (by omega)
      omega
    · have h4 : (j - i) * k ≤ ((lim : Nat) : Int) * k := Int.mul_le_mul_of_nonneg_right hl (by omega)
      have h5 : (j - i - 1) * 1 ≤ (j - i - 1) * k := Int.mul_le_mul_of_nonneg_left (by omega) (by omega)
      rw [Int.sub_mul] at h5
      omega
  omega
theorem pi_rng1D (ha : PE X a (tE G W ma)) (hg : Gl X "range") (hm : X.mg "range" = none) (hs : starEach [a] X.env = (false, eval a X.env) :: starEach [] X.env) : PI X tg (.Call (.Name "range" p) [a] [] pos) (tI G W w fun ρ => (ma ρ).toW w rngW1) := PI.by fun σ H R h => by
  obtain ⟨F, ρ, E, p⟩ := h
  try dsimp only at p
  refine ⟨_, pi_range1 hg hm (pa_cons ha pa_nil hs) hs, F, ρ, E, ?_⟩
  refine toW_post p _ fun d v H' e r p' => ?_
  cases d <;> try exact False.elim p'
  rename_i i
  replace p' : PostK G F W w σ H R (rngD 0 i 1) := p'
  unfold rngD at p'
  split at p'
  · rename_i c
    refine ⟨i, by rw [r.w.int], by omega, by omega, p' _ H' e ?_ (rng_len (by omega) (by omega))⟩
    have e1 : ((i - 0 + 1 - 1) / 1).toNat = i.toNat := by rw [Int.ediv_one]; omega
    rw [e1]
    exact wlk_rng1
  · exact False.elim p'
theorem pi_rng2D (ha : PE X a (tE G W ma)) (hb : PE X b (tE G W mb)) (hg : Gl X "range") (hm : X.mg "range" = none) (hs : starEach [a, b] X.env = (false, eval a X.env) :: starEach [b] X.env) (hs2 : starEach [b] X.env = (false, eval b X.env) :: starEach [] X.env) :
    PI X tg (.Call (.Name "range" p) [a, b] [] pos) (tI G W w fun ρ => (ma ρ).toW w fun x => (mb ρ).toW w fun y => rngW2 x y) := PI.by fun σ H R h => by
  obtain ⟨F, ρ, E, p⟩ := h
  try dsimp only at p
  refine ⟨_, pi_range2 hg hm (pa_cons ha (pa_cons hb pa_nil hs2) hs) (by rw [hs, hs2]; rfl) hs2, F, ρ, E, ?_⟩
  refine toW_post p _ fun d v H' e r p' => ⟨F, ρ, E.up e, ?_⟩
  refine toW_post (p'.up e) _ fun d2 u H2 e2 r2 p3 => ?_
  cases d <;> try exact False.elim p3
  cases d2 <;> try exact False.elim p3
  rename_i i j
  replace p3 : PostK G F W w σ H' R (rngD i j 1) := p3
  unfold rngD at p3
  split at p3
  · rename_i c
    refine ⟨i, j, by rw [r.w.int, r2.w.int], by omega, p3 _ H2 e2 ?_ (rng_len (by omega) (by omega))⟩
    have e1 : ((j - i + 1 - 1) / 1).toNat = (j - i).toNat := by rw [Int.ediv_one]; omega
    rw [e1]
    exact wlk_rng1
  · exact False.elim p3
theorem rng_size {i j k : Int} (hk : 0 < k) : Builtin.Range.rangeSize i j k = (((j - i + k - 1) / k).toNat : Int) := by
  unfold Builtin.Range.rangeSize
  rw [if_pos (show k > 0 from hk)]
  have e : j - i + k - 1 = (j - i - 1) + 1 * k := by omega
  rw [e, Int.add_mul_ediv_right _ _ (by omega)]
  by_cases h : i < j
  · rw [if_pos h]
    have : 0 ≤ (j - i - 1) / k := Int.ediv_nonneg (by omega) (by omega)
    omega
  · rw [if_neg h]
    have : (j - i - 1) / k < 0 := Int.ediv_neg_of_neg_of_pos (by omega) hk
    omega
theorem rng_small {i j k : Int} (c : 0 < k ∧ k < 1073741824 ∧ -(2 ^ 61) ≤ i ∧ i < 2 ^ 61 ∧ -(2 ^ 61) ≤ j ∧ j < 2 ^ 61) : Builtin.Range.small i j k = true := by
  unfold Builtin.Range.small
  rw [rng_size c.1]
  have e0 : 0 ≤ (j - i + k - 1) / k ∨ (j - i + k - 1) / k < 0 := by omega
  have e1 : (j - i + k - 1) / k ≤ 2 ^ 62 + 1 := by
    rw [Int.ediv_le_iff_le_mul c.1]
    have h1 : (2 ^ 62 + 1) * 1 ≤ (2 ^ 62 + 1) * k := Int.mul_le_mul_of_nonneg_left (by omega) (by omega)
    omega
  simp only [Builtin.Range.rangeFitsLong, Bool.and_eq_true, Bool.or_eq_true, decide_eq_true_eq, beq_iff_eq, if_pos (show k > 0 from c.1)]
  generalize (j - i + k - 1) / k = q at *
  omega
theorem pi_rng3D (ha : PE X a (tE G W ma)) (hb : PE X b (tE G W mb)) (hc : PE X c (tE G W mc)) (hg : Gl X "range") (hm : X.mg "range" = none) (hs : starEach [a, b, c] X.env = (false, eval a X.env) :: starEach [b, c] X.env) (hs2 : starEach [b, c] X.env = (false, eval b X.env) :: starEach [c] X.env) (hs3 : starEach [c] X.env = (false, eval c X.env) :: starEach [] X.env)
    (hpl : (backTo pos (starEach [b, c] X.env)).any (·.1) = false) :
    PI X tg (.Call (.Name "range" p) [a, b, c] [] pos) (tI G W w fun ρ => (ma ρ).toW w fun x => (mb ρ).toW w fun y => (mc ρ).toW w fun z => rngW3 x y z) := PI.by fun σ H R h => by
  obtain ⟨F, ρ, E, p⟩ := h
  try dsimp only at p
  refine ⟨_, pi_range3 hg hm (pa_cons ha (pa_cons hb (pa_cons hc pa_nil hs3) hs2) hs) hs hpl, F, ρ, E, ?_⟩
  refine toW_post p _ fun d v H' e r p' => ⟨F, ρ, E.up e, ?_⟩
  refine toW_post (p'.up e) _ fun d2 u H2 e2 r2 p3 => ⟨F, ρ, E.up (e.trans e2), ?_⟩
  refine toW_post (p3.up e2) _ fun d3 u3 H3 e3 r3 p4 => ?_
  cases d <;> try exact False.elim p4
  cases d2 <;> try exact False.elim p4
  cases d3 <;> try exact False.elim p4
  rename_i i j k
  replace p4 : PostK G F W w σ H2 R (rngD i j k) := p4
  unfold rngD at p4
  split at p4
  · rename_i c
    refine ⟨i, j, k, _, by rw [r.w.int, r2.w.int, r3.w.int], ⟨by omega, by omega, rng_small ⟨c.1, c.2.1, c.2.2.1, c.2.2.2.1, c.2.2.2.2.1, c.2.2.2.2.2.1⟩, rng_size c.1⟩, p4 _ H3 e3 wlk_rng (rng_len (by omega) (by omega))⟩
  · exact False.elim p4
end
end Dk

/-! DkA: targets, comprehensions. -/
namespace Dk
open PySem PySem.Spec PyProof.Rows L2
def tgs : Tg → List Nat
  | .one i => [i]
  | .many is => is
/-- the target takes d -/
def gD (G : Ge) (tg : Tg) : TG := fun v σ H Q => ∃ F ρ d ρ', EnvE G F ρ σ H ∧ Rep G (sol H F) v d ∧ bindT tg d ρ = some ρ' ∧ ∀ σ', EnvE G F ρ' σ' H → (∀ vs, (∀ i ∈ tgs tg, i ∈ vs) → wipe σ' vs = wipe σ vs) → (∀ j, j ∉ tgs tg → σ'[j]? = σ[j]?) → Q σ' H
theorem wipe_set {σ : VS} {i : Nat} {x : Option V} : ∀ {vs : List Nat}, i ∈ vs → wipe (σ.set i x) vs = wipe σ vs
  | [], h => absurd h (by simp)
  | v :: vs, h => by
    unfold wipe
    by_cases hi : i ∈ vs
    · rw [wipe_set hi]
    · have e : i = v := (List.mem_cons.mp h).resolve_right hi
      subst e
      have key : ∀ us : List Nat, i ∉ us → wipe (σ.set i x) us = (wipe σ us).set i x := fun us => by
        induction us with
        | nil => exact fun _ => rfl
        | cons u us ih =>
          intro hu
          have h1 : i ≠ u := fun e => hu (e ▸ List.mem_cons_self ..)
          have h2 : i ∉ us := fun e => hu (List.mem_cons_of_mem _ e)
          unfold wipe
          rw [ih h2, List.set_comm _ _ (fun e => h1 e)]
      rw [key vs hi, List.set_set]
section
variable {G : Ge} {F : Addr → Prop} {H : Hp} {ρ : En} {σ : VS} {v : V} {d : D}
theorem EnvE.put (E : EnvE G F ρ σ H) {s : Sl} (r : RepS G F H v s) (i : Nat) : EnvE G F (ρ.set i (some s)) (σ.set i (some v)) H := by
  have hl := E.len
  refine ⟨fun j s' q => ?_, E.dom, by rw [List.length_set, List.length_set]; exact hl⟩
  by_cases h : i = j
  · subst h
    have hi : i < ρ.length := by
      by_cases hi : i < ρ.length
      · exact hi
      · rw [List.getElem?_eq_none (by rw [List.length_set]; omega)] at q; cases q
    rw [List.getElem?_set_self hi] at q
    cases q
    exact ⟨v, List.getElem?_set_self (by omega), r⟩
  · rw [List.getElem?_set_ne h] at q
    obtain ⟨w, h1, h2⟩ := E.slot j s' q
    exact ⟨w, by rw [List.getElem?_set_ne h]; exact h1, h2⟩
theorem EnvE.putD (E : EnvE G F ρ σ H) (r : Rep G (sol H F) v d) (i : Nat) : EnvE G F (putS ρ i d) (σ.set i (some v)) H := E.put (s := .im d) r i
theorem wipeE_some {i : Nat} {x : Sl} : ∀ {vs : List Nat}, (wipeE ρ vs)[i]? = some (some x) → ρ[i]? = some (some x) ∧ i ∉ vs
  | [], h => ⟨h, by simp⟩
  | v :: vs, h => by
    unfold wipeE at h
    by_cases hi : v = i
    · subst hi
      by_cases hv : v < (wipeE ρ vs).length
      · rw [List.getElem?_set_self hv] at h; cases h
      · rw [List.getElem?_eq_none (by simpa using hv)] at h; cases h
    · rw [List.getElem?_set_ne hi] at h
      obtain ⟨h1, h2⟩ := wipeE_some h
      exact ⟨h1, by simp only [List.mem_cons, not_or]; exact ⟨fun e => hi e.symm, h2⟩⟩
theorem wipeE_len : ∀ vs : List Nat, (wipeE ρ vs).length = ρ.length
  | [] => rfl
  | v :: vs => by unfold wipeE; rw [List.length_set, wipeE_len vs]
theorem wipe_keep {i : Nat} : ∀ {vs : List Nat}, i ∉ vs → (wipe σ vs)[i]? = σ[i]?
  | [], _ => rfl
  | v :: vs, h => by
    simp only [List.mem_cons, not_or] at h
    unfold wipe
    rw [List.getElem?_set_ne (fun e => h.1 e.symm), wipe_keep h.2]
theorem EnvE.wiped (E : EnvE G F ρ σ H) (vs : List Nat) : EnvE G F (wipeE ρ vs) (wipe σ vs) H := by
  refine ⟨fun j s' q => ?_, E.dom, by rw [wipeE_len, wipe_length]; exact E.len⟩
  obtain ⟨q, n⟩ := wipeE_some q
  obtain ⟨w, h1, h2⟩ := E.slot j s' q
  exact ⟨w, by rw [wipe_keep n]; exact h1, h2⟩
theorem putS_len {i : Nat} : (putS ρ i d).length = ρ.length := List.length_set
theorem putL_env : ∀ (is : List Nat) (ds : List D) (vs : List V) (ρ ρ' : En) (σ : VS), EnvE G F ρ σ H → RepL G (sol H F) vs ds → putL is ds ρ = some ρ' → ∃ σ', EnvE G F ρ' σ' H ∧ ((∀ us, (∀ i ∈ is, i ∈ us) → wipe σ' us = wipe σ us) ∧ ∀ j, j ∉ is → σ'[j]? = σ[j]?) ∧ σ' = (is.zip vs).foldl (fun s p => s.set p.1 (some p.2)) σ ∧ vs.length = is.length
  | [], [], _, ρ, ρ', σ, E, r, h => by
    cases r
    cases h
    exact ⟨σ, E, ⟨fun _ _ => rfl, fun _ _ => rfl⟩, rfl, rfl⟩
  | [], _ :: _, _, _, _, _, _, _, h => by cases h
  | _ :: _, [], _, _, _, _, _, _, h => by cases h
  | i :: is, d :: ds, _, ρ, ρ', σ, E, r, h => by
    cases r with
    | @cons v vs _ _ r1 r2 =>
      have h' : putL is ds (putS ρ i d) = some ρ' := h
      obtain ⟨σ', E', hw, e, l⟩ := putL_env is ds vs _ ρ' _ (E.putD r1 i) r2 h'
      refine ⟨σ', E', ⟨fun us hu => ?_, fun j hj => ?_⟩, e, congrArg Nat.succ l⟩
      · rw [hw.1 us fun j hj => hu j (List.mem_cons_of_mem _ hj), wipe_set (hu i (List.mem_cons_self ..))]
      · simp only [List.mem_cons, not_or] at hj
        rw [hw.2 j hj.2, List.getElem?_set_ne fun e => hj.1 e.symm]
end
section
variable {X : L2.Cx} {G : Ge} {pos : Pos}
theorem PG.imp {tg : Expr} {t t' : TG} (h : PG X tg t) (k : ∀ v σ H Q, t' v σ H Q → t v σ H Q) : PG X tg t' := ⟨fun pins s σ H v u Q I r q => h.run pins s σ H v u Q I r (k v σ H Q q)⟩
theorem pg_oneD {i : Nat} {x : Str} (hN : X.N.Nodup) (hi : X.N[i]? = some x) (hx : Loc X.env.scope x) (hf : X.fn x = true ∨ X.env.scope.names.lookup x = some .local) : PG X (.Name x pos) (gD G (.one i)) := PG.imp (pg_name hN hi hx hf) fun v σ H Q h => by
  obtain ⟨F, ρ, d, ρ', E, r, e, k⟩ := h
  cases e
  exact k _ (E.putD r i) (fun vs hv => wipe_set (hv i (by simp [tgs]))) fun j hj => List.getElem?_set_ne fun e => hj (by simp [tgs, e])
/-- names, one after another -/
inductive NamesAt (X : L2.Cx) : List Nat → List Expr → Prop
  | nil : NamesAt X [] []
  | cons {i : Nat} {x : Str} {p : Pos} {is : List Nat} {es : List Expr} : X.N[i]? = some x → Loc X.env.scope x → (X.fn x = true ∨ X.env.scope.names.lookup x = some .local) → NamesAt X is es → NamesAt X (i :: is) (.Name x p :: es)
def gSeq : List Nat → TGs
  | [] => gNil
  | i :: is => gCons (gName i) (gSeq is)
theorem pgs_names (hN : X.N.Nodup) : ∀ {is : List Nat} {es : List Expr}, NamesAt X is es → PGs X es (gSeq is)
  | _, _, .nil => pgs_nil
  | _, _, .cons h1 h2 h3 t => pgs_cons (pg_name hN h1 h2 h3) (pgs_names hN t) rfl
theorem each_len : ∀ {is : List Nat} {es : List Expr}, NamesAt X is es → (assignEach es X.env).length = is.length ∧ (assignEach es X.env).findIdx? (·.1) = none
  | _, _, .nil => ⟨rfl, rfl⟩
  | _, _, .cons (x := x) (p := p) (es := es) _ _ _ t => by
    obtain ⟨h1, h2⟩ := each_len t
    have e : assignEach (.Name x p :: es) X.env = (false, assign (.Name x p) X.env) :: assignEach es X.env := rfl
    rw [e]
    refine ⟨congrArg Nat.succ h1, ?_⟩
    rw [List.findIdx?_cons, h2]
    rfl
theorem gSeq_of : ∀ (is : List Nat) (vs : List V) (σ : VS) (H : Hp) (Q : VS → Hp → Prop), vs.length = is.length → Q ((is.zip vs).foldl (fun s p => s.set p.1 (some p.2)) σ) H → gSeq is vs σ H Q
  | [], [], _, _, _, _, h => ⟨rfl, h⟩
  | [], _ :: _, _, _, _, hl, _ => by cases hl
  | _ :: _, [], _, _, _, hl, _ => by cases hl
  | i :: is, v :: vs, σ, H, Q, hl, h => ⟨v, vs, rfl, gSeq_of is vs _ H Q (Nat.succ.inj hl) h⟩
theorem pg_manyD (hK : X.K = G.K) (hc : X.calm = true) (hN : X.N.Nodup) {is : List Nat} {es : List Expr} {k : Nat} (h : NamesAt X is es) : PG X (.Tuple es k pos) (gD G (.many is)) :=
  PG.imp (pg_tup hc (pgs_names hN h) (each_len h).1 (each_len h).2) fun v σ H Q q => by
    obtain ⟨F, ρ, d, ρ', E, r, e, k⟩ := q
    cases d with
    | tup ds =>
      replace e : putL is ds ρ = some ρ' := e
      cases r with
      | @tup a vs _ s1 l1 q1 =>
        obtain ⟨σ', E', hw, e2, l⟩ := putL_env is ds vs ρ ρ' σ E q1 e
        refine ⟨a, vs, rfl, by rw [hK]; exact SqT.same sol_le s1, l, gSeq_of is vs σ H Q l ?_⟩
        rw [← e2]
        exact k σ' E' hw.1 hw.2
    | _ => cases e
end

/-! ### comprehensions -/
def W0 : WX := fun _ _ _ _ => False
section
variable {X : L2.Cx} {G : Ge} {W : WX} {mi : En → Wk} {mc me : En → R} {tgm : Tg} {own : List Nat}
def compM (mi : En → Wk) (mc me : En → R) (tgm : Tg) (own : List Nat) : En → R := fun ρ => (mi ρ).bnd fun ds => optL (compL (fun d => bindT tgm d (wipeE ρ own)) mc me ds)
theorem sol_upd {F : Addr → Prop} {H : Hp} {a : Addr} {o : HO} (h : F a) : sol (upd H a o) F = sol H F := by
  funext b
  by_cases f : F b
  · rw [sol_in f, sol_in f]
  · rw [sol_at f, sol_at f, upd_ne (fun e => f (by rw [e]; exact h))]
theorem tLcD (hsub : ∀ i ∈ tgs tgm, i ∈ own) {σ : VS} {H : Hp} {Q : VK} {F : Addr → Prop} {ρ : En} (E : EnvE G F ρ σ H) (p : Post G F W σ H Q (compM mi mc me tgm own ρ)) :
    tLc (tI G W true mi) (gD G tgm) (tT G W0 mc) (tE G W0 me) own σ H Q := by
  unfold compM at p
  refine ⟨F, ρ, E, ?_⟩
  cases hw : mi ρ with
  | exc c => rw [hw] at p; exact p
  | bad => rw [hw] at p; exact p
  | ok ds =>
    rw [hw] at p
    replace p : Post G F W σ H Q (optL (compL (fun d => bindT tgm d (wipeE ρ own)) mc me ds)) := p
    intro J H1 e1 wk lds Dn hD
    cases hc : compL (fun d => bindT tgm d (wipeE ρ own)) mc me ds with
    | none => rw [hc] at p; exact p.elim
    | some ys =>
      rw [hc] at p
      replace p : Post G F W σ H Q (.ok (.lst ys)) := p
      have E1 := E.up e1
      have nD : ¬ F Dn := fun f => by obtain ⟨o, h⟩ := E1.dom _ f; rw [hD] at h; cases h
      refine lc_it wk (fun i H2 => Same H1 H2 ∧ i ≤ ds.length ∧ ∃ acc dacc rest, H2 Dn = some (.lst acc) ∧ RepL G (sol H2 fun a => F a ∨ a = Dn) acc dacc ∧ compL (fun d => bindT tgm d (wipeE ρ own)) mc me (ds.drop i) = some rest ∧ dacc ++ rest = ys ∧ acc.length ≤ i) ?_ ?_ ?_ ?_
      · exact ⟨same_upd hD, Nat.zero_le _, [], [], ys, upd_same, .nil, hc, rfl, Nat.le_refl _⟩
      · exact fun i H2 _ h => h.1
      · intro i x H2 H3 hi pv y
        obtain ⟨s12, hile, acc, dacc, rest, hacc, racc, hrest, hys, hlacc⟩ := pv
        obtain ⟨s23, d, hd, rd⟩ := y
        have E2 : EnvE G (fun a => F a ∨ a = Dn) ρ σ H2 := by
          refine ⟨fun j s q => ?_, fun a f => ?_, E.len⟩
          · obtain ⟨v, h1, h2⟩ := E1.slot j s q
            refine ⟨v, h1, ?_⟩
            have sm : Same (sol H1 F) (sol H2 fun a => F a ∨ a = Dn) := fun b o h => by
              obtain ⟨f, h⟩ := sol_of h
              have ne : b ≠ Dn := ne_of_none h hD
              rw [sol_at (fun z => z.elim f ne)]
              exact s12 _ _ h
            cases s with
            | im d => exact Rep.up (d := d) h2 sm
            | mu xs =>
              obtain ⟨a, vs, g1, g2, g3, g4, g5⟩ := h2
              exact ⟨a, vs, g1, .inl g2, s12 _ _ g3, g4, g5.up sm⟩
          · rcases f with f | f
            · obtain ⟨o, h⟩ := E1.dom a f; exact ⟨o, s12 _ _ h⟩
            · subst f; exact ⟨_, hacc⟩
        have E3 := E2.up s23
        have rx := rd _ E2.dom (fun b o h => by
          obtain ⟨f, h⟩ := sol_of h
          have ne : b ≠ Dn := ne_of_none h hD
          rw [sol_at (fun z => z.elim f ne)]
          exact s12 _ _ h)
        have hdrop : ds.drop i = d :: ds.drop (i + 1) := by
          have hi' : i < ds.length := hi
          rw [List.drop_eq_getElem_cons hi']
          rw [List.getElem?_eq_getElem hi'] at hd
          rw [Option.some.inj hd]
        rw [hdrop] at hrest
        unfold compL at hrest
        split at hrest
        · cases hrest
        · rename_i ρ' hρ'
          refine ⟨_, wipeE ρ own, d, ρ', E3.wiped own, rx, hρ', fun σ' E' hw' _ => ⟨?_, ?_⟩⟩
          · have e := hw' own hsub
            have idem : ∀ vs : List Nat, wipe (wipe σ vs) vs = wipe σ vs := fun vs => by
              refine List.ext_getElem? fun j => ?_
              by_cases hj : j ∈ vs
              · have z : ∀ τ : VS, ∀ us : List Nat, j ∈ us → (wipe τ us)[j]? = if j < τ.length then some none else none := fun τ us => by
                  induction us with
                  | nil => exact fun h => absurd h (by simp)
                  | cons u us ih =>
                    intro hu
                    unfold wipe
                    by_cases e : u = j
                    · subst e
                      rw [List.getElem?_set_self']
                      by_cases hlt : u < τ.length
                      · rw [List.getElem?_eq_getElem (by rw [wipe_length]; exact hlt), if_pos hlt]; rfl
                      · rw [List.getElem?_eq_none (by rw [wipe_length]; omega), if_neg hlt]; rfl
                    · rw [List.getElem?_set_ne e]
                      exact ih ((List.mem_cons.mp hu).resolve_left fun z => e z.symm)
                rw [z _ _ hj, z _ _ hj, wipe_length]
              · rw [wipe_keep hj]
            rw [e]
            exact idem own
          · refine ⟨_, ρ', E', ?_⟩
            cases hcv : mc ρ' with
            | ok t =>
              rw [hcv] at hrest
              dsimp only at hrest
              cases ht : truD t with
              | none => rw [ht] at hrest; cases hrest
              | some tb =>
                rw [ht] at hrest
                refine ⟨tb, ht, fun H4 e4 => ?_⟩
                have s14 : Same H1 H4 := s12.trans (s23.trans e4)
                have acc4 : H4 Dn = some (.lst acc) := (s23.trans e4) _ _ hacc
                cases tb with
                | false =>
                  simp only [Bool.false_eq_true, if_false]
                  exact ⟨s14, hi, acc, dacc, rest, acc4, racc.up (sol_up (s23.trans e4)), hrest, hys, by omega⟩
                | true =>
                  simp only [if_true]
                  refine ⟨_, ρ', E'.up e4, ?_⟩
                  cases hev : me ρ' with
                  | ok y =>
                    rw [hev] at hrest
                    dsimp only at hrest
                    obtain ⟨rest2, hr2, hr3⟩ := Option.map_eq_some_iff.mp hrest
                    intro v H5 e5 ry
                    have acc5 : H5 Dn = some (.lst acc) := e5 _ _ acc4
                    refine ⟨acc, acc5, ?_, ?_⟩
                    · have : ds.length ≤ sizeLine := lds
                      have hi' : i < ds.length := hi
                      omega
                    · refine ⟨fun b o h => ?_, hi, acc ++ [v], dacc ++ [y], rest2, upd_same, ?_, hr2, ?_, ?_⟩
                      · rw [upd_ne (ne_of_none h hD)]
                        exact e5 _ _ (s14 _ _ h)
                      · rw [sol_upd (.inr rfl)]
                        exact (racc.up (sol_up ((s23.trans e4).trans e5))).app (.cons ry .nil)
                      · rw [List.append_assoc, ← hys, ← hr3]; rfl
                      · rw [List.length_append]; show acc.length + 1 ≤ i + 1; omega
                  | okm xs => rw [hev] at hrest; cases hrest
                  | exc c => rw [hev] at hrest; cases hrest
                  | bad => rw [hev] at hrest; cases hrest
            | okm xs => rw [hcv] at hrest; cases hrest
            | exc c => rw [hcv] at hrest; cases hrest
            | bad => rw [hcv] at hrest; cases hrest
      · intro H2 pv
        obtain ⟨s12, _, acc, dacc, rest, hacc, racc, hrest, hys, hlacc⟩ := pv
        rw [List.drop_length] at hrest
        have e : ([] : List D) = rest := Option.some.inj hrest
        subst e
        rw [List.append_nil] at hys
        subst hys
        refine p _ _ (e1.trans s12) (.lst (by rw [sol_at nD]; exact hacc) (by have : ds.length ≤ sizeLine := lds; omega) (racc.up (sol_anti fun a f => .inl f)))
end
end Dk

/-! DkB: statements. -/
namespace Dk
open PySem PySem.Spec PyProof.Rows L2
/-- Fc: the callers' lists; B: what has to stand; F: all lists that names hold to be changed -/
structure StE (G : Ge) (Fc : Addr → Prop) (B : Hp) (F : Addr → Prop) (ρ : En) (σ : VS) (H : Hp) : Prop where
  env : EnvE G F ρ σ H
  up : ∀ a, Fc a → F a
  dn : ∀ a, F a → Fc a ∨ B a = none
  fc : ∀ a, Fc a → ∃ o, B a = some o
  sm : Same B H
  own : ∀ (i : Nat) (xs : List D) (a : Addr), ρ[i]? = some (some (.mu xs)) → σ[i]? = some (some (.ref a)) → B a = none
  dis : ∀ (i j : Nat) (xs ys : List D) (a : Addr), ρ[i]? = some (some (.mu xs)) → ρ[j]? = some (some (.mu ys)) → σ[i]? = some (some (.ref a)) → σ[j]? = some (some (.ref a)) → i = j
def St2 (G : Ge) (Fc : Addr → Prop) (B : Hp) (ρ : En) (σ : VS) (H : Hp) : Prop := ∃ F, StE G Fc B F ρ σ H
def PFl (G : Ge) (Fc : Addr → Prop) (W : WX) (B : Hp) (D : Ends) : Fl → Prop
  | .nx ρ => ∀ σ H, St2 G Fc B ρ σ H → D.nx σ H
  | .rt d => ∀ v H, Same B H → Rep G (sol H Fc) v d → D.rt v H
  | .exc c ρ => ∀ σ H, St2 G Fc B ρ σ H → W (.ref (G.ea c)) none σ H
  | .bad => False
def tS (G : Ge) (W : WX) (Fc : Addr → Prop) (B : Hp) (m : En → Fl) : TS := fun D σ H => ∃ ρ, St2 G Fc B ρ σ H ∧ PFl G Fc W B D (m ρ)
section
variable {G : Ge} {W : WX} {Fc F : Addr → Prop} {B H H' : Hp} {ρ : En} {σ : VS} {v : V} {d : D} {D0 : Ends}
theorem StE.grow (S : StE G Fc B F ρ σ H) (e : Same H H') : StE G Fc B F ρ σ H' := ⟨S.env.up e, S.up, S.dn, S.fc, S.sm.trans e, S.own, S.dis⟩
theorem get_set {α : Type} {l : List (Option α)} {i j : Nat} {x y : α} (h : (l.set i (some x))[j]? = some (some y)) : (i = j ∧ y = x) ∨ (i ≠ j ∧ l[j]? = some (some y)) := by
  by_cases e : i = j
  · subst e
    by_cases hi : i < l.length
    · rw [List.getElem?_set_self hi] at h; cases h; exact .inl ⟨rfl, rfl⟩
    · rw [List.getElem?_eq_none (by rw [List.length_set]; omega)] at h; cases h
  · rw [List.getElem?_set_ne e] at h; exact .inr ⟨e, h⟩
theorem StE.put (S : StE G Fc B F ρ σ H) (r : Rep G (sol H F) v d) (i : Nat) : StE G Fc B F (putS ρ i d) (σ.set i (some v)) H := by
  refine ⟨S.env.putD r i, S.up, S.dn, S.fc, S.sm, fun j xs a h1 h2 => ?_, fun j k xs ys a h1 h2 h3 h4 => ?_⟩
  · rcases get_set h1 with ⟨_, z⟩ | ⟨e, h1⟩
    · cases z
    · rw [List.getElem?_set_ne e] at h2
      exact S.own j xs a h1 h2
  · rcases get_set h1 with ⟨_, z⟩ | ⟨e, h1⟩
    · cases z
    · rcases get_set h2 with ⟨_, z⟩ | ⟨e2, h2⟩
      · cases z
      · rw [List.getElem?_set_ne e] at h3
        rw [List.getElem?_set_ne e2] at h4
        exact S.dis j k xs ys a h1 h2 h3 h4
/-- where a mutable list lies -/
theorem EnvE.muAt (E : EnvE G F ρ σ H) {i : Nat} {xs : List D} (h : ρ[i]? = some (some (.mu xs))) : ∃ a vs, σ[i]? = some (some (.ref a)) ∧ F a ∧ H a = some (.lst vs) ∧ vs.length ≤ sizeLine ∧ RepL G (sol H F) vs xs := by
  obtain ⟨v, h1, a, vs, e, h2⟩ := E.slot i _ h
  subst e
  exact ⟨a, vs, h1, h2⟩
theorem StE.setMu (S : StE G Fc B F ρ σ H) {i : Nat} {xs ys : List D} {a : Addr} {ws : List V} (h : ρ[i]? = some (some (.mu xs))) (ha : σ[i]? = some (some (.ref a))) (hl : ws.length ≤ sizeLine) (r : RepL G (sol H F) ws ys) : StE G Fc B F (putM ρ i ys) σ (upd H a (.lst ws)) := by
  obtain ⟨a', vs, h1, fa, h2, h3, h4⟩ := S.env.muAt h
  rw [ha] at h1
  cases h1
  have sl : sol (upd H a (.lst ws)) F = sol H F := sol_upd fa
  have hi : i < ρ.length := by
    by_cases hi : i < ρ.length
    · exact hi
    · rw [List.getElem?_eq_none (by omega)] at h; cases h
  have muj : ∀ {j : Nat} {zs : List D}, (putM ρ i ys)[j]? = some (some (.mu zs)) → ∃ zs', ρ[j]? = some (some (.mu zs')) := fun {j zs} q => by
    rcases get_set q with ⟨e, _⟩ | ⟨e, q⟩
    · subst e; exact ⟨_, h⟩
    · exact ⟨_, q⟩
  refine ⟨⟨fun j s q => ?_, fun b f => ?_, by show (ρ.set i _).length = _; rw [List.length_set]; exact S.env.len⟩, S.up, S.dn, S.fc, fun b o q => ?_, fun j zs b q1 q2 => ?_, fun j k zs us b q1 q2 q3 q4 => ?_⟩
  · rcases get_set q with ⟨e, z⟩ | ⟨e, q⟩
    · subst e z
      exact ⟨.ref a, ha, a, ws, rfl, fa, upd_same, hl, by rw [sl]; exact r⟩
    · obtain ⟨v, g1, g2⟩ := S.env.slot j s q
      refine ⟨v, g1, ?_⟩
      cases s with
      | im d => show Rep G (sol _ F) v d; rw [sl]; exact g2
      | mu zs =>
        obtain ⟨b, us, e1, k1, k2, k3, k4⟩ := g2
        subst e1
        have ne : b ≠ a := fun z => by
          subst z
          exact e (S.dis i j _ _ b h q ha g1)
        exact ⟨b, us, rfl, k1, by rw [upd_ne ne]; exact k2, k3, by rw [sl]; exact k4⟩
  · by_cases e : b = a
    · subst e; exact ⟨_, upd_same⟩
    · obtain ⟨o, z⟩ := S.env.dom b f; exact ⟨o, by rw [upd_ne e]; exact z⟩
  · have ne : b ≠ a := fun z => by
      subst z
      rw [S.own i xs b h ha] at q; cases q
    rw [upd_ne ne]; exact S.sm _ _ q
  · obtain ⟨zs', q1⟩ := muj q1
    exact S.own j zs' b q1 q2
  · obtain ⟨zs', q1⟩ := muj q1
    obtain ⟨us', q2⟩ := muj q2
    exact S.dis j k zs' us' b q1 q2 q3 q4
theorem sol_new {p : Addr} (e : Same H H') (hp : H p = none) : Same (sol H F) (sol H' fun a => F a ∨ a = p) := fun b o h => by
  obtain ⟨f, h⟩ := sol_of h
  have ne : b ≠ p := ne_of_none h hp
  rw [sol_at (fun z => z.elim f ne)]
  exact e _ _ h
theorem StE.new (S : StE G Fc B F ρ σ H) {p : Addr} {vs : List V} {xs : List D} (hp : H p = none) (e : Same H H') (h : H' p = some (.lst vs)) (hl : vs.length ≤ sizeLine) (r : RepL G (sol H' fun a => F a ∨ a = p) vs xs) (i : Nat) :
    StE G Fc B (fun a => F a ∨ a = p) (putM ρ i xs) (σ.set i (some (.ref p))) H' := by
  have Bp : B p = none := by
    cases q : B p with
    | none => rfl
    | some o => have := S.sm _ _ q; rw [hp] at this; cases this
  have E' : EnvE G (fun a => F a ∨ a = p) ρ σ H' := by
    refine ⟨fun j s q => ?_, fun a f => ?_, S.env.len⟩
    · obtain ⟨v, h1, h2⟩ := S.env.slot j s q
      refine ⟨v, h1, ?_⟩
      cases s with
      | im d => exact Rep.up (d := d) h2 (sol_new e hp)
      | mu zs =>
        obtain ⟨a, us, g1, g2, g3, g4, g5⟩ := h2
        exact ⟨a, us, g1, .inl g2, e _ _ g3, g4, g5.up (sol_new e hp)⟩
    · rcases f with f | f
      · obtain ⟨o, z⟩ := S.env.dom a f; exact ⟨o, e _ _ z⟩
      · subst f; exact ⟨_, h⟩
  have np : ∀ {j : Nat} {zs : List D}, ρ[j]? = some (some (.mu zs)) → σ[j]? ≠ some (some (.ref p)) := fun {j zs} q z => by
    obtain ⟨a, us, g1, g2, g3, _⟩ := S.env.muAt q
    rw [z] at g1
    cases g1
    rw [hp] at g3; cases g3
  refine ⟨E'.put (s := .mu xs) ⟨p, vs, rfl, .inr rfl, h, hl, r⟩ i, fun a f => .inl (S.up a f), fun a f => ?_, S.fc, S.sm.trans e, fun j zs a q1 q2 => ?_, fun j k zs us a q1 q2 q3 q4 => ?_⟩
  · rcases f with f | f
    · exact S.dn a f
    · subst f; exact .inr Bp
  · rcases get_set q1 with ⟨e1, z⟩ | ⟨e1, q1⟩
    · subst e1
      rcases get_set q2 with ⟨_, z2⟩ | ⟨z2, _⟩
      · cases z2; exact Bp
      · exact absurd rfl z2
    · rw [List.getElem?_set_ne e1] at q2
      exact S.own j zs a q1 q2
  · rcases get_set q1 with ⟨e1, z⟩ | ⟨e1, q1⟩
    · subst e1
      rcases get_set q2 with ⟨e2, _⟩ | ⟨e2, q2⟩
      · exact e2
      · rw [List.getElem?_set_ne e2] at q4
        rcases get_set q3 with ⟨_, z2⟩ | ⟨z2, _⟩
        · cases z2; exact absurd q4 (np q2)
        · exact absurd rfl z2
    · rw [List.getElem?_set_ne e1] at q3
      rcases get_set q2 with ⟨e2, _⟩ | ⟨e2, q2⟩
      · subst e2
        rcases get_set q4 with ⟨_, z2⟩ | ⟨z2, _⟩
        · cases z2; exact absurd q3 (np q1)
        · exact absurd rfl z2
      · rw [List.getElem?_set_ne e2] at q4
        exact S.dis j k zs us a q1 q2 q3 q4
/-- a list that stays as it is from here on -/
theorem StE.frz (S : StE G Fc B F ρ σ H) {i : Nat} {xs : List D} (h : ρ[i]? = some (some (.mu xs))) : ∃ F', StE G Fc B F' (putS ρ i (.lst xs)) σ H := by
  obtain ⟨a, vs, h1, fa, h2, h3, h4⟩ := S.env.muAt h
  have sm : Same (sol H F) (sol H fun b => F b ∧ b ≠ a) := fun b o q => by
    obtain ⟨f, q⟩ := sol_of q
    rw [sol_at (fun z => f z.1)]
    exact q
  have na : ¬ Fc a := fun f => by
    obtain ⟨o, z⟩ := S.fc a f
    rw [S.own i xs a h h1] at z; cases z
  refine ⟨fun b => F b ∧ b ≠ a, ⟨fun j s q => ?_, fun b f => S.env.dom b f.1, by rw [putS_len]; exact S.env.len⟩, fun b f => ⟨S.up b f, fun z => na (by rw [← z]; exact f)⟩, fun b f => S.dn b f.1, S.fc, S.sm, fun j zs b q1 q2 => ?_, fun j k zs us b q1 q2 q3 q4 => ?_⟩
  · rcases get_set q with ⟨e, z⟩ | ⟨e, q⟩
    · subst e z
      exact ⟨.ref a, h1, .lst (by rw [sol_at (fun z => z.2 rfl)]; exact h2) h3 (h4.up sm)⟩
    · obtain ⟨v, g1, g2⟩ := S.env.slot j s q
      refine ⟨v, g1, ?_⟩
      cases s with
      | im d => exact Rep.up (d := d) g2 sm
      | mu zs =>
        obtain ⟨b, us, e1, k1, k2, k3, k4⟩ := g2
        subst e1
        exact ⟨b, us, rfl, ⟨k1, fun z => by subst z; exact e (S.dis i j _ _ b h q h1 g1)⟩, k2, k3, k4.up sm⟩
  · rcases get_set q1 with ⟨_, z⟩ | ⟨_, q1⟩
    · cases z
    · exact S.own j zs b q1 q2
  · rcases get_set q1 with ⟨_, z⟩ | ⟨_, q1⟩
    · cases z
    · rcases get_set q2 with ⟨_, z⟩ | ⟨_, q2⟩
      · cases z
      · exact S.dis j k zs us b q1 q2 q3 q4

/-! ### what is wanted -/
theorem PFl.thn (S : StE G Fc B F ρ σ H) {r : R} {f : D → Fl} (h : PFl G Fc W B D0 (r.thn ρ f)) (Q : VK) (k : ∀ d v H', Same H H' → StE G Fc B F ρ σ H' → Rep G (sol H' F) v d → PFl G Fc W B D0 (f d) → Q v H') : Post G F W σ H Q r := by
  cases r with
  | ok d => exact fun v H' e q => k d v H' e (S.grow e) q h
  | okm xs => exact h.elim
  | exc c => exact fun H' e => h σ H' ⟨F, S.grow e⟩
  | bad => exact h
theorem PFl.thnW (S : StE G Fc B F ρ σ H) {r : R} {f : D → Fl} (h : PFl G Fc W B D0 (r.thnW ρ f)) (Q : VK) (k : ∀ d v H', Same H H' → StE G Fc B F ρ σ H' → PFl G Fc W B D0 (f d) → Q v H') : Post G F W σ H Q r := by
  cases r with
  | ok d => exact fun v H' e q => k d v H' e (S.grow e) h
  | okm xs => exact fun v H' e q => k (.lst xs) v H' e (S.grow e) h
  | exc c => exact fun H' e => h σ H' ⟨F, S.grow e⟩
  | bad => exact h
theorem PFl.thnT (S : StE G Fc B F ρ σ H) {r : R} {a b : Fl} (h : PFl G Fc W B D0 (r.thnW ρ fun d => ifF d a b)) (Q : Bool → Hp → Prop) (k : ∀ t H', Same H H' → StE G Fc B F ρ σ H' → PFl G Fc W B D0 (if t = true then a else b) → Q t H') : PostT G F W σ H Q r := by
  have one : ∀ d t, truD d = some t → PFl G Fc W B D0 (ifF d a b) → PFl G Fc W B D0 (if t = true then a else b) := fun d t e h => by
    unfold ifF at h
    rw [e] at h
    cases t <;> exact h
  cases r with
  | ok d =>
    replace h : PFl G Fc W B D0 (ifF d a b) := h
    cases e : truD d with
    | none => unfold ifF at h; rw [e] at h; exact h.elim
    | some t => exact ⟨t, e, fun H' e2 => k t H' e2 (S.grow e2) (one d t e h)⟩
  | okm xs => exact fun H' e2 => k _ H' e2 (S.grow e2) (one (.lst xs) _ rfl h)
  | exc c => exact fun H' e => h σ H' ⟨F, S.grow e⟩
  | bad => exact h
theorem PFl.nxt {r : Fl} {f : En → Fl} (h : PFl G Fc W B D0 (r.nxt f)) : PFl G Fc W B { D0 with nx := tS G W Fc B f D0 } r := by
  cases r with
  | nx ρ => exact fun σ H S => ⟨ρ, S, h⟩
  | rt d => exact h
  | exc c ρ => exact h
  | bad => exact h
end
section
variable {X : L2.Cx} {G : Ge} {W : WX} {Fc : Addr → Prop} {B : Hp} {i : Nat} {x : Str} {e : Expr} {m : En → R} {pos pos' p p2 : Pos} {ma mb : En → Fl} {a b : List Stmt} {st : Stmt}
theorem pss_nilD : PSs X [] (tS G W Fc B fun ρ => .nx ρ) := PSs.imp pss_nil fun D σ H h => by
  obtain ⟨ρ, S, p⟩ := h
  exact p σ H S
theorem pss_consD (h1 : PS X st (tS G W Fc B ma)) (h2 : PSs X a (tS G W Fc B mb)) : PSs X (st :: a) (tS G W Fc B fun ρ => (ma ρ).nxt mb) := PSs.imp (pss_cons h1 h2) fun D σ H h => by
  obtain ⟨ρ, S, p⟩ := h
  exact ⟨ρ, S, PFl.nxt p⟩
/-- a statement of the evaluator alone -/
theorem pss_frzD {f : En → Fl} (hf : ∀ ρ σ H D, St2 G Fc B ρ σ H → PFl G Fc W B D ((f ρ).nxt ma) → tS G W Fc B ma D σ H) (h : PSs X a (tS G W Fc B ma)) : PSs X a (tS G W Fc B fun ρ => (f ρ).nxt ma) := PSs.imp h fun D σ H q => by
  obtain ⟨ρ, S, p⟩ := q
  exact hf ρ σ H D S p
theorem frz_ok {i : Nat} (ρ : En) (σ : VS) (H : Hp) (D : Ends) (S : St2 G Fc B ρ σ H) (h : PFl G Fc W B D ((frzF ρ i).nxt ma)) : tS G W Fc B ma D σ H := by
  obtain ⟨F, S⟩ := S
  unfold frzF at h
  split at h
  · rename_i xs e
    obtain ⟨F', S'⟩ := S.frz e
    exact ⟨_, ⟨F', S'⟩, h⟩
  · exact h.elim
theorem ps_passD : PS X (.Pass pos) (tS G W Fc B fun ρ => .nx ρ) := PS.imp ps_pass fun D σ H h => by
  obtain ⟨ρ, S, p⟩ := h
  exact p σ H S
theorem set_fin {m : En → R} {te : TE} (he : ∀ σ H Q, tE G W m σ H Q → te σ H Q) {D : Ends} {σ : VS} {H : Hp} (h : tS G W Fc B (fun ρ => (m ρ).thn ρ fun d => .nx (putS ρ i d)) D σ H) : tAsg te (gName i) D σ H := by
  obtain ⟨ρ, ⟨F, S⟩, p⟩ := h
  refine he _ _ _ ⟨F, ρ, S.env, PFl.thn S p _ fun d v H' e S' r p' => ?_⟩
  exact p' _ _ ⟨F, S'.put r i⟩
theorem ps_setD (hN : X.N.Nodup) (hi : X.N[i]? = some x) (hx : Loc X.env.scope x) (he : PE X e (tE G W m)) (hs : swapsWith e (some (.Name x pos')) pos.line X.env = pure false) (hf : X.fn x = true ∨ X.env.scope.names.lookup x = some .local) :
    PS X (.Assign [.Name x pos'] e pos) (tS G W Fc B fun ρ => (m ρ).thn ρ fun d => .nx (putS ρ i d)) := PS.imp (ps_set hN hi hx he hs hf) fun D σ H h => set_fin (fun _ _ _ z => z) h
theorem ps_setMD (hN : X.N.Nodup) (hi : X.N[i]? = some x) (hx : Loc X.env.scope x) (he : PE X e (tF G W m)) (hs : swapsWith e (some (.Name x pos')) pos.line X.env = pure false) (hf : X.fn x = true ∨ X.env.scope.names.lookup x = some .local) :
    PS X (.Assign [.Name x pos'] e pos) (tS G W Fc B fun ρ => (m ρ).thn ρ fun d => setMF ρ i d) := PS.imp (ps_set hN hi hx he hs hf) fun D σ H h => by
  obtain ⟨ρ, ⟨F, S⟩, p⟩ := h
  try dsimp only at p
  refine ⟨F, ρ, S.env, ?_⟩
  cases hr : m ρ with
  | ok d =>
    rw [hr] at p
    replace p : PFl G Fc W B D (setMF ρ i d) := p
    cases d with
    | lst xs => exact fun q vs H' hq e h2 hl r => p _ _ ⟨_, S.new hq e h2 hl r i⟩
    | _ => exact p.elim
  | okm xs => rw [hr] at p; exact p.elim
  | exc c => rw [hr] at p; exact fun H' e => p σ H' ⟨F, S.grow e⟩
  | bad => rw [hr] at p; exact p
theorem ps_unpD (hK : X.K = G.K) (hc : X.calm = true) (hN : X.N.Nodup) {is : List Nat} {es : List Expr} {k : Nat} (hn : NamesAt X is es) (he : PE X e (tE G W m)) (hs : swapsWithSole [.Tuple es k p] e pos.line X.env = pure false) (hw : swappedStores [.Tuple es k p] e X.env = pure none) :
    PS X (.Assign [.Tuple es k p] e pos) (tS G W Fc B fun ρ => (m ρ).thn ρ fun d => unpF ρ is d) := PS.imp (ps_asg he (pg_tup hc (pgs_names hN hn) (each_len hn).1 (each_len hn).2) hs hw rfl) fun D σ H h => by
  obtain ⟨ρ, ⟨F, S⟩, p⟩ := h
  refine ⟨F, ρ, S.env, PFl.thn S p _ fun d v H' e S' r p' => ?_⟩
  cases d with
  | tup ds =>
    replace p' : PFl G Fc W B D (ofO (putL is ds ρ)) := p'
    cases r with
    | @tup a vs _ s1 l1 q1 =>
      cases hq : putL is ds ρ with
      | none => rw [hq] at p'; exact p'.elim
      | some ρ' =>
        rw [hq] at p'
        have gen : ∀ (is : List Nat) (ds : List Dk.D) (vs : List V) (ρ : En) (σ : VS), StE G Fc B F ρ σ H' → RepL G (sol H' F) vs ds → putL is ds ρ = some ρ' → vs.length = is.length ∧ StE G Fc B F ρ' ((is.zip vs).foldl (fun s p => s.set p.1 (some p.2)) σ) H' := fun is => by
          induction is with
          | nil => intro ds vs ρ σ S r h; cases ds with
            | nil => cases r; cases h; exact ⟨rfl, S⟩
            | cons d ds => cases h
          | cons i is ih => intro ds vs ρ σ S r h; cases ds with
            | nil => cases h
            | cons d ds =>
              cases r with
              | @cons v vs _ _ r1 r2 =>
                obtain ⟨l, S2⟩ := ih ds vs _ _ (S.put r1 i) r2 h
                exact ⟨congrArg Nat.succ l, S2⟩
        obtain ⟨l, S2⟩ := gen is ds vs ρ σ S' q1 hq
        exact ⟨a, vs, rfl, by rw [hK]; exact SqT.same sol_le s1, l, gSeq_of is vs σ H' D.nx l (p' _ _ ⟨F, S2⟩)⟩
  | _ => exact p'.elim
theorem ps_ifD {c : Expr} (hc : PT X c (tT G W m)) (ha : PSs X a (tS G W Fc B ma)) (hb : PSs X b (tS G W Fc B mb)) : PS X (.If c a b pos) (tS G W Fc B fun ρ => (m ρ).thnW ρ fun d => ifF d (ma ρ) (mb ρ)) := PS.imp (ps_if hc ha hb) fun D σ H h => by
  obtain ⟨ρ, ⟨F, S⟩, p⟩ := h
  refine ⟨F, ρ, S.env, PFl.thnT S p _ fun t H' e S' p' => ?_⟩
  cases t with
  | true => rw [if_pos rfl] at p' ⊢; exact ⟨ρ, ⟨F, S'⟩, p'⟩
  | false => rw [if_neg Bool.false_ne_true] at p' ⊢; exact ⟨ρ, ⟨F, S'⟩, p'⟩
theorem ps_retD (he : PE X e (tE G W m)) : PS X (.Return (some e) pos) (tS G W Fc B fun ρ => (m ρ).ret ρ) := PS.imp (ps_ret he) fun D σ H h => by
  obtain ⟨ρ, ⟨F, S⟩, p⟩ := h
  try dsimp only at p
  refine ⟨F, ρ, S.env, ?_⟩
  cases hr : m ρ with
  | ok d => rw [hr] at p; exact fun v H' e r => p v H' (S.sm.trans e) (r.up (sol_anti S.up))
  | okm xs => rw [hr] at p; exact p.elim
  | exc c => rw [hr] at p; exact fun H' e => p σ H' ⟨F, S.grow e⟩
  | bad => rw [hr] at p; exact p
theorem ps_retMD (hN : X.N[i]? = some x) (hv : Vis X.env.scope x) (hd : (x == ("__debug__" : Str)) = false) (hcd : (x == ("__classdict__" : Str)) = false) : PS X (.Return (some (.Name x p)) pos) (tS G W Fc B fun ρ => retF ρ i) := PS.imp (ps_ret (pe_var hN hv hd hcd)) fun D σ H h => by
  obtain ⟨ρ, ⟨F, S⟩, p⟩ := h
  try dsimp only at p
  unfold retF at p
  split at p
  · rename_i xs e
    obtain ⟨a, vs, h1, fa, h2, h3, h4⟩ := S.env.muAt e
    have na : ¬ Fc a := fun f => by
      obtain ⟨o, z⟩ := S.fc a f
      rw [S.own i xs a e h1] at z; cases z
    exact ⟨.ref a, h1, p _ H S.sm (.lst (by rw [sol_at na]; exact h2) h3 (h4.up (sol_anti S.up)))⟩
  · exact p.elim
theorem ps_expD (he : PE X e (tE G W m)) (hs : swapsWith e none pos.line X.env = pure false) : PS X (.Expr e pos) (tS G W Fc B fun ρ => (m ρ).thnW ρ fun _ => .nx ρ) := PS.imp (ps_expr he hs) fun D σ H h => by
  obtain ⟨ρ, ⟨F, S⟩, p⟩ := h
  exact ⟨F, ρ, S.env, PFl.thnW S p _ fun d v H' e S' p' => p' _ _ ⟨F, S'⟩⟩
theorem ps_appD (hN : X.N[i]? = some x) (hv : Vis X.env.scope x) (hd : (x == ("__debug__" : Str)) = false) (hcd : (x == ("__classdict__" : Str)) = false) (he : PE X e (tE G W m)) (hs : starEach [e] X.env = (false, eval e X.env) :: starEach [] X.env) (hline : (p2.endLine == pos'.line) = true) :
    PS X (.Expr (.Call (.Attribute (.Name x p) "append" p2) [e] [] pos') pos) (tS G W Fc B fun ρ => appG ρ i (m ρ)) :=
  PS.imp (ps_expr (pe_bm PySem.F.plainAttrs_list PySem.F.slot_list_append PySem.F.type_list_append mt_append (pe_var hN hv hd hcd) (pa_cons he pa_nil hs) rfl (by rw [hs]; rfl) hline hs rfl) rfl) fun D σ H h => by
  obtain ⟨ρ, ⟨F, S⟩, p⟩ := h
  try dsimp only at p
  unfold appG at p
  split at p
  · rename_i xs e1
    obtain ⟨a, vs, h1, fa, h2, h3, h4⟩ := S.env.muAt e1
    refine ⟨.ref a, h1, .inl ⟨rfl, vs, .inl (.inl h2)⟩, F, ρ, S.env, PFl.thn S p _ fun d v H' e S' r p' => ?_⟩
    obtain ⟨z, p'⟩ := (show xs.length < lim ∧ PFl G Fc W B D (.nx (putM ρ i (xs ++ [d]))) from by
      by_cases z : xs.length < lim
      · rw [if_pos z] at p'; exact ⟨z, p'⟩
      · rw [if_neg z] at p'; exact p'.elim)
    rw [lim_eq] at z
    have hl := h4.len
    refine ⟨a, vs, v, rfl, rfl, e _ _ h2, by omega, p' _ _ ⟨F, S'.setMu e1 h1 (by rw [List.length_append]; show vs.length + 1 ≤ _; omega) ((h4.up (sol_up e)).app (.cons r .nil))⟩⟩
  · exact p.elim
theorem ps_extD (hN : X.N[i]? = some x) (hv : Vis X.env.scope x) (hd : (x == ("__debug__" : Str)) = false) (hcd : (x == ("__classdict__" : Str)) = false) (he : PE X e (tE G W m)) (hs : starEach [e] X.env = (false, eval e X.env) :: starEach [] X.env) (hline : (p2.endLine == pos'.line) = true) :
    PS X (.Expr (.Call (.Attribute (.Name x p) "extend" p2) [e] [] pos') pos) (tS G W Fc B fun ρ => extG ρ i (m ρ)) :=
  PS.imp (ps_expr (pe_bm PySem.F.plainAttrs_list PySem.F.slot_list_extend PySem.F.type_list_extend mt_extend (pe_var hN hv hd hcd) (pa_cons he pa_nil hs) rfl (by rw [hs]; rfl) hline hs rfl) rfl) fun D σ H h => by
  obtain ⟨ρ, ⟨F, S⟩, p⟩ := h
  try dsimp only at p
  unfold extG at p
  split at p
  · rename_i xs e1
    obtain ⟨a, vs, h1, fa, h2, h3, h4⟩ := S.env.muAt e1
    refine ⟨.ref a, h1, .inl ⟨rfl, vs, .inl (.inl h2)⟩, F, ρ, S.env, PFl.thn S p _ fun d v H' e S' r p' => ?_⟩
    cases d with
    | lst ys =>
      obtain ⟨z, p'⟩ := (show xs.length + ys.length ≤ lim ∧ PFl G Fc W B D (.nx (putM ρ i (xs ++ ys))) from by
        by_cases z : xs.length + ys.length ≤ lim
        · dsimp only at p'; rw [if_pos z] at p'; exact ⟨z, p'⟩
        · dsimp only at p'; rw [if_neg z] at p'; exact p'.elim)
      rw [lim_eq] at z
      have hl := h4.len
      cases r with
      | @lst b ws _ g1 g2 g3 =>
        have hl2 := g3.len
        refine ⟨a, b, vs, ws, rfl, rfl, e _ _ h2, (sol_of g1).2, by omega, p' _ _ ⟨F, S'.setMu e1 h1 (by rw [List.length_append]; omega) ((h4.up (sol_up e)).app g3)⟩⟩
    | _ => exact p'.elim
  · exact p.elim
/-- x[j] = e -/
theorem ps_stxD {j : Expr} {mj : En → R} {pt : Pos} (hN : X.N[i]? = some x) (hv : Vis X.env.scope x) (hd : (x == ("__debug__" : Str)) = false) (hcd : (x == ("__classdict__" : Str)) = false) (he : PE X e (tE G W m)) (hj : PE X j (tE G W mj)) (hs : swapsWithSole [.Subscript (.Name x p) j pt] e pos.line X.env = pure false) (hw : swappedStores [.Subscript (.Name x p) j pt] e X.env = pure none)
    (ha : ∀ v, assign (.Subscript (.Name x p) j pt) X.env v = (do
      let ov ← holding [v] (eval (.Name x p) X.env)
      let iv ← holding [v, ov] (eval j X.env)
      standAt pt
      holding [v, ov, iv] (setItem ov iv v)
      release [v, ov, iv] [])) :
    PS X (.Assign [.Subscript (.Name x p) j pt] e pos) (tS G W Fc B fun ρ => (m ρ).thn ρ fun d => stxG ρ i d (mj ρ)) :=
  PS.imp (ps_asg he (pg_sub (pe_var hN hv hd hcd) hj set_list ha) hs hw rfl) fun D σ H h => by
  obtain ⟨ρ, ⟨F, S⟩, p⟩ := h
  refine ⟨F, ρ, S.env, PFl.thn S p _ fun d v H' e S' r p' => ?_⟩
  unfold stxG at p'
  split at p'
  · rename_i xs e1
    obtain ⟨a, vs, h1, fa, h2, h3, h4⟩ := S'.env.muAt e1
    refine ⟨.ref a, h1, F, ρ, S'.env, PFl.thn S' p' _ fun k u H2 e2 S2 r2 p2 => ?_⟩
    cases k with
    | int k =>
      replace p2 : PFl G Fc W B D (match Dk.ixN xs.length k with
        | some m => .nx (putM ρ i (xs.set m d))
        | none => .bad) := p2
      have hl := h4.len
      cases hk : Dk.ixN xs.length k with
      | none => rw [hk] at p2; exact p2.elim
      | some m =>
        rw [hk] at p2
        refine ⟨a, vs, k, m, rfl, (RepW.int (.inl r2)), e2 _ _ h2, by rw [hl]; exact hk, p2 _ _ ⟨F, S2.setMu e1 h1 (by rw [List.length_set]; exact h3) ((h4.up (sol_up e2)).set m (r.up (sol_up e2)))⟩⟩
    | _ => exact p2.elim
  · exact p'.elim
/-! ### loops -/
open Classical in
/-- what stands as a loop begins, but for the lists that are held to be changed -/
noncomputable def lBase (H : Hp) (Fc F : Addr → Prop) : Hp := fun a => if F a ∧ ¬ Fc a then none else H a
theorem StE.loop {F : Addr → Prop} {ρ : En} {σ : VS} {H : Hp} (S : StE G Fc B F ρ σ H) : StE G Fc (lBase H Fc F) F ρ σ H ∧ Same B (lBase H Fc F) ∧ Same (sol H F) (lBase H Fc F) := by
  have at_in : ∀ {a}, F a → ¬ Fc a → lBase H Fc F a = none := fun h1 h2 => by unfold lBase; rw [if_pos ⟨h1, h2⟩]
  have at_out : ∀ {a}, ¬ (F a ∧ ¬ Fc a) → lBase H Fc F a = H a := fun h => by unfold lBase; rw [if_neg h]
  have le : Same (lBase H Fc F) H := fun a o h => by
    by_cases z : F a ∧ ¬ Fc a
    · rw [at_in z.1 z.2] at h; cases h
    · rw [at_out z] at h; exact h
  refine ⟨⟨S.env, S.up, fun a f => ?_, fun a f => ?_, le, fun i xs a h1 h2 => ?_, S.dis⟩, fun a o h => ?_, fun a o h => ?_⟩
  · by_cases z : Fc a
    · exact .inl z
    · exact .inr (at_in f z)
  · obtain ⟨o, h⟩ := S.fc a f
    exact ⟨o, by rw [at_out fun z => z.2 f]; exact S.sm _ _ h⟩
  · obtain ⟨a', vs, g1, fa, _⟩ := S.env.muAt h1
    rw [h2] at g1
    cases g1
    refine at_in fa fun z => ?_
    obtain ⟨o, h⟩ := S.fc a z
    rw [S.own i xs a h1 h2] at h; cases h
  · have n : ¬ (F a ∧ ¬ Fc a) := fun z => by
      rcases S.dn a z.1 with q | q
      · exact z.2 q
      · rw [h] at q; cases q
    rw [at_out n]; exact S.sm _ _ h
  · obtain ⟨f, h⟩ := sol_of h
    rw [at_out fun z => f z.1]; exact h
theorem StE.base {F : Addr → Prop} {ρ : En} {σ : VS} {H B2 : Hp} (S : StE G Fc B2 F ρ σ H) (e : Same B B2) (fc : ∀ a, Fc a → ∃ o, B a = some o) : StE G Fc B F ρ σ H :=
  ⟨S.env, S.up, fun a f => (S.dn a f).imp_right fun h => e.free h, fc, e.trans S.sm, fun i xs a h1 h2 => e.free (S.own i xs a h1 h2), S.dis⟩
theorem PFl.base {B2 : Hp} {D : Ends} {r : Fl} (e : Same B B2) (fc : ∀ a, Fc a → ∃ o, B a = some o) (h : PFl G Fc W B D r) : PFl G Fc W B2 D r := by
  cases r with
  | nx ρ => exact fun σ H ⟨F, S⟩ => h σ H ⟨F, S.base e fc⟩
  | rt d => exact fun v H s r => h v H (e.trans s) r
  | exc c ρ => exact fun σ H ⟨F, S⟩ => h σ H ⟨F, S.base e fc⟩
  | bad => exact h
theorem PFl.ends {D D2 : Ends} {r : Fl} (h : PFl G Fc W B D r) (e : D2.rt = D.rt) (k : ∀ ρ σ H, r = .nx ρ → St2 G Fc B ρ σ H → D2.nx σ H) : PFl G Fc W B D2 r := by
  cases r with
  | nx ρ => exact fun σ H S => k ρ σ H rfl S
  | rt d => exact fun v H s r => by rw [e]; exact h v H s r
  | exc c ρ => exact h
  | bad => exact h
theorem bindT_mu {tg : Tg} {d : Dk.D} {ρ ρ' : En} {j : Nat} {xs : List Dk.D} (h : bindT tg d ρ = some ρ') (q : ρ'[j]? = some (some (.mu xs))) : j ∉ tgs tg ∧ ρ[j]? = some (some (.mu xs)) := by
  cases tg with
  | one i =>
    cases h
    rcases get_set q with ⟨_, z⟩ | ⟨e, q⟩
    · cases z
    · exact ⟨by simp [tgs]; exact fun z => e z.symm, q⟩
  | many is =>
    cases d with
    | tup ds =>
      replace h : putL is ds ρ = some ρ' := h
      show j ∉ is ∧ _
      induction is generalizing ds ρ with
      | nil => cases ds with
        | nil => cases h; exact ⟨by simp, q⟩
        | cons d ds => cases h
      | cons i is ih => cases ds with
        | nil => cases h
        | cons d ds =>
          obtain ⟨h1, h2⟩ := ih ds h
          rcases get_set h2 with ⟨_, z⟩ | ⟨e, h2⟩
          · cases z
          · exact ⟨by simp only [List.mem_cons, not_or]; exact ⟨fun z => e z.symm, h1⟩, h2⟩
    | _ => cases h
theorem StE.bind {F : Addr → Prop} {ρ ρ' : En} {σ σ' : VS} {H : Hp} {tg : Tg} {d : Dk.D} (S : StE G Fc B F ρ σ H) (h : bindT tg d ρ = some ρ') (E : EnvE G F ρ' σ' H) (k : ∀ j, j ∉ tgs tg → σ'[j]? = σ[j]?) : StE G Fc B F ρ' σ' H :=
  ⟨E, S.up, S.dn, S.fc, S.sm, fun i xs a h1 h2 => by
    obtain ⟨n, h1⟩ := bindT_mu h h1
    rw [k i n] at h2
    exact S.own i xs a h1 h2, fun i j xs ys a h1 h2 h3 h4 => by
    obtain ⟨n1, h1⟩ := bindT_mu h h1
    obtain ⟨n2, h2⟩ := bindT_mu h h2
    rw [k i n1] at h3
    rw [k j n2] at h4
    exact S.dis i j xs ys a h1 h2 h3 h4⟩
theorem pss_any (hb : ∀ B, PSs X a (tS G W Fc B ma)) : PSs X a (fun D σ H => ∃ B, tS G W Fc B ma D σ H) := ⟨fun pins s σ H D I ⟨B, h⟩ => (hb B).run pins s σ H D I h⟩
theorem ps_forD {tg iter : Expr} {tgm : Tg} {mi : En → Wk} (hp : PassesOwn (model X.prog X.w) X.A X.env X.xe) (hc : X.calm = true) (hi : PI X tg iter (tI G W false mi)) (hg : PG X tg (gD G tgm)) (hb : ∀ B, PSs X a (tS G W Fc B ma)) (hs : ∀ x, foldedSetIterable iter X.env x = pure x) :
    PS X (.For tg iter a [] pos) (tS G W Fc B fun ρ => (mi ρ).thn ρ fun ds => forL (fun d ρ => (ofO (bindT tgm d ρ)).nxt ma) ds ρ) := PS.imp (ps_for hp hc hi hg (pss_any hb) hs) fun D σ H h => by
  obtain ⟨ρ, ⟨F, S⟩, p⟩ := h
  try dsimp only at p
  refine ⟨F, ρ, S.env, ?_⟩
  cases hw : mi ρ with
  | exc c => rw [hw] at p; exact fun H' e => p σ H' ⟨F, S.grow e⟩
  | bad => rw [hw] at p; exact p
  | ok ds =>
    rw [hw] at p
    replace p : PFl G Fc W B D (forL (fun d ρ => (ofO (bindT tgm d ρ)).nxt ma) ds ρ) := p
    intro J H1 e1 wk lds
    obtain ⟨S2, hB, hsol⟩ := (S.grow e1).loop
    generalize hB2 : lBase H1 Fc F = B2 at S2 hB hsol
    refine L2.for_it (D := D) (g := gD G tgm) (tb := fun D σ H => ∃ B, tS G W Fc B ma D σ H) wk (fun i σ2 H2 => i ≤ ds.length ∧ ∃ ρ2, St2 G Fc B2 ρ2 σ2 H2 ∧ PFl G Fc W B2 D (forL (fun d ρ => (ofO (bindT tgm d ρ)).nxt ma) (ds.drop i) ρ2)) ?_ ?_ ?_ ?_
    · exact ⟨Nat.zero_le _, ρ, ⟨F, S2⟩, PFl.base hB S.fc p⟩
    · intro i σ2 H2 _ h
      obtain ⟨_, ρ2, ⟨F2, S3⟩, _⟩ := h
      exact hsol.trans S3.sm
    · intro i x σ2 H2 H3 hi h y
      obtain ⟨_, ρ2, ⟨F2, S3⟩, p3⟩ := h
      obtain ⟨s23, d, hd, rd⟩ := y
      have hdrop : ds.drop i = d :: ds.drop (i + 1) := by
        have hi' : i < ds.length := hi
        rw [List.drop_eq_getElem_cons hi']
        rw [List.getElem?_eq_getElem hi'] at hd
        rw [Option.some.inj hd]
      rw [hdrop] at p3
      have rx := rd F2 S3.env.dom fun b o hb => by
        obtain ⟨f, h1⟩ := sol_of hb
        have h2 := hsol _ _ hb
        rw [sol_at fun z => ?_]
        · exact S3.sm _ _ h2
        · rcases S3.dn b z with q | q
          · exact f (S.up b q)
          · rw [h2] at q; cases q
      replace p3 : PFl G Fc W B2 D (((ofO (bindT tgm d ρ2)).nxt ma).nxt fun ρ' => forL (fun d ρ => (ofO (bindT tgm d ρ)).nxt ma) (ds.drop (i + 1)) ρ') := p3
      cases hb : bindT tgm d ρ2 with
      | none => rw [hb] at p3; exact p3.elim
      | some ρ' =>
        rw [hb] at p3
        replace p3 : PFl G Fc W B2 D ((ma ρ').nxt fun ρ' => forL (fun d ρ => (ofO (bindT tgm d ρ)).nxt ma) (ds.drop (i + 1)) ρ') := p3
        refine ⟨F2, ρ2, d, ρ', (S3.grow s23).env, rx, hb, fun σ' E' _ hk => ⟨B2, ρ', ⟨F2, (S3.grow s23).bind hb E' hk⟩, ?_⟩⟩
        cases hm : ma ρ' with
        | nx ρ4 => rw [hm] at p3; exact fun σ4 H4 S4 => ⟨hi, ρ4, S4, p3⟩
        | rt d => rw [hm] at p3; exact p3
        | exc c ρ4 => rw [hm] at p3; exact p3
        | bad => rw [hm] at p3; exact p3
    · intro σ2 H2 h
      obtain ⟨_, ρ2, S3, p3⟩ := h
      rw [List.drop_length] at p3
      exact p3 σ2 H2 S3
theorem ps_whileD {c : Expr} {n : Nat} (hp : PassesOwn (model X.prog X.w) X.A X.env X.xe) (hc : PT X c (tT G W m)) (hb : PSs X a (tS G W Fc B ma)) : PS X (.While c a [] pos) (tS G W Fc B fun ρ => whL m ma n ρ) := PS.imp (ps_while hp hc hb) fun D σ H h => by
  obtain ⟨ρ, S, p⟩ := h
  refine ⟨fun k σ H => ∃ ρ, St2 G Fc B ρ σ H ∧ PFl G Fc W B D (whL m ma k ρ), ⟨n, ρ, S, p⟩, fun k σ H q => ?_⟩
  obtain ⟨ρ, ⟨F, S⟩, p⟩ := q
  cases k with
  | zero => exact p.elim
  | succ k =>
    refine ⟨F, ρ, S.env, PFl.thnT S p _ fun t H' e S' p' => ?_⟩
    cases t with
    | true =>
      rw [if_pos rfl] at p' ⊢
      refine ⟨fun σ H => ∃ ρ, St2 G Fc B ρ σ H ∧ PFl G Fc W B D (whL m ma k ρ), fun σ' H' q => ⟨k, Nat.lt_succ_self k, q⟩, ρ, ⟨F, S'⟩, ?_⟩
      cases hm : ma ρ with
      | nx ρ4 => rw [hm] at p'; exact fun σ4 H4 S4 => ⟨ρ4, S4, p'⟩
      | rt d => rw [hm] at p'; exact p'
      | exc c ρ4 => rw [hm] at p'; exact p'
      | bad => rw [hm] at p'; exact p'
    | false =>
      rw [if_neg Bool.false_ne_true] at p' ⊢
      exact p' _ _ ⟨F, S'⟩
end
end Dk

/-! DkC: more expressions: turned round, methods of texts, new lists. -/
namespace Dk
open PySem PySem.Spec PyProof.Rows L2
/-! ### [::-1] -/
theorem revAdj (n : Nat) : Builtin.Slice.sliceAdjust none none (-1) (n : Int) = ((n : Int) - 1, -1) := by
  unfold Builtin.Slice.sliceAdjust
  simp
theorem revPl (n : Nat) : Builtin.Slice.slicePlaces ((n : Int) - 1) (-1) (-1) = n := by
  unfold Builtin.Slice.slicePlaces
  rw [if_neg (by decide)]
  by_cases h : (n : Int) - 1 > -1
  · rw [if_pos h, show (- -1 : Int) = 1 from rfl, Int.ediv_one]; omega
  · rw [if_neg h]; omega
theorem rev_pick {α : Type} (xs : Array α) : ((List.range xs.size).filterMap fun (m : Nat) => xs[((xs.size : Int) - 1 + (m : Int) * -1).toNat]?) = xs.toList.reverse := by
  refine List.ext_getElem? fun i => ?_
  have key : ∀ n, n ≤ xs.size → ((List.range n).filterMap fun (m : Nat) => xs[((xs.size : Int) - 1 + (m : Int) * -1).toNat]?) = xs.toList.reverse.take n := fun n => by
    induction n with
    | zero => simp
    | succ n ih =>
      intro hn
      rw [List.range_succ, List.filterMap_append, ih (by omega)]
      have e : ((xs.size : Int) - 1 + (n : Int) * -1).toNat = xs.size - 1 - n := by omega
      have hlt : xs.size - 1 - n < xs.size := by omega
      have e2 : xs.toList.reverse[n]? = some (xs[xs.size - 1 - n]) := by
        rw [List.getElem?_reverse (by rw [Array.length_toList]; omega)]
        simp [hlt]
      rw [List.take_add_one, e2]
      simp only [List.filterMap_cons, e, List.filterMap_nil, Array.getElem?_eq_getElem hlt]
      rfl
  rw [key _ (Nat.le_refl _)]
  rw [List.take_of_length_le (by simp)]
section
variable {prog : Program} {w : World} {A : Around} {E : Value → Shared → Prop} {s : Shared}
theorem sliceApplied_rev {sl : Addr} {vs : Value} {n : Nat} {Q : Int × Int × Nat → Shared → Prop} (hs : s.heap.IsSliceOf sl .none .none vs) (ps : IsPart vs (some (-1)))
    (h : Q ((n : Int) - 1, -1, n) s) : wpAny (model prog w) A (Builtin.Slice.sliceApplied (.ref sl) (pure (n : Int))) Q E s := by
  obtain ⟨os, hos, hcs, hds⟩ := id hs
  unfold Builtin.Slice.sliceApplied Builtin.Slice.sliceFields
  refine wpAny_bind (wpAny_bind (wpAny_field hos hds (x := .none) rfl (wpAny_bind (wpAny_field hos hds (x := .none) rfl (wpAny_bind (wpAny_field hos hds (x := vs) rfl (wpAny_pure ?_)))))))
  refine wpAny_bind (HT.slicePart_ ps ?_)
  show wpAny _ _ (if ((-1 : Int) == 0) = true then _ else _) _ _ s
  rw [if_neg (by decide)]
  refine wpAny_bind (HT.slicePart_ .none (wpAny_bind (HT.slicePart_ .none (wpAny_bind (wpAny_pure ?_)))))
  show wpAny _ _ (match Builtin.Slice.sliceAdjust none none (-1) (n : Int) with | (lo, hi) => pure (lo, (-1 : Int), Builtin.Slice.slicePlaces lo hi (-1))) _ _ s
  rw [revAdj]
  show wpAny _ _ (pure ((n : Int) - 1, (-1 : Int), Builtin.Slice.slicePlaces ((n : Int) - 1) (-1) (-1))) _ _ s
  rw [revPl]
  exact wpAny_pure h
theorem getItem_tuple_rev {t sl : Addr} {items : Array Value} {vs : Value} {Q : Value → Shared → Prop} (ht : IsTup s.heap t items) (hs : s.heap.IsSliceOf sl .none .none vs) (ps : IsPart vs (some (-1)))
    (h : Q (.ref s.heap.objs.size) { s with heap := s.heap.push { cls := .type "tuple", data := .seq items.toList.reverse.toArray } })
    (hsz : items.size ≤ sizeLine) : wpAny (model prog w) A (getItem (.ref t) (.ref sl)) Q E s := by
  have htake : sizeOk (.seq items.toList.reverse.toArray) := by
    show items.toList.reverse.toArray.size ≤ sizeLine
    rw [List.size_toArray, List.length_reverse, Array.length_toList]
    exact hsz
  obtain ⟨os, hos, hcs, hds⟩ := id hs
  have hTs : s.TypeIs (.ref sl) "slice" := ⟨os, hos, hcs⟩
  unfold getItem
  try with_reducible refine wpAny_holding ?_
  first | refine wpAny_bind (wpAny_pure ?_) | skip
  refine wpAny_bind (wpAny_sequenceKey ht.typeIs (by decide) ?_)
  refine wpAny_bind (wpAny_callSpecial?_slot (name := Str.ofString "__getitem__") ht.typeIs PyProof.Rows.slot_tuple_getitem
    (wpAny_call_entry PyProof.Rows.slot_tuple_getitem ht.typeIs entry_tuple_getitem ?_ (args_tuple_getitem _ _)))
  show wpAny _ _ (Builtin.Tuple.tupleItemsOf (.ref t) >>= _) _ _ s
  refine wpAny_bind (tupleItemsOf_ ht ?_)
  refine wpAny_bind (wpAny_typeOf hTs ?_)
  rw [if_pos (by decide)]
  refine wpAny_bind (sliceApplied_rev hs ps ?_)
  have hno : ¬ ((((items.size : Int) - 1) == 0 && (-1 : Int) == 1 && items.size == items.size) = true) := by
    intro q
    rw [Bool.and_eq_true, Bool.and_eq_true] at q
    exact absurd (eq_of_beq q.1.2) (by decide)
  show wpAny _ _ (if (((items.size : Int) - 1) == 0 && (-1 : Int) == 1 && items.size == items.size) = true then _ else _) _ _ s
  rw [if_neg hno, rev_pick]
  first
    | exact wpAny_bind (m := Builtin.Tuple.tupleExact _) (wpAny_newObj_type (wpAny_pure ⟨_, rfl, wpAny_pure h⟩) htake)
    | exact wpAny_bind (m := Builtin.Tuple.tupleExact _) (wpAny_newObj_type (wpAny_bind (wpAny_pure (wpAny_pure ⟨_, rfl, wpAny_pure h⟩))) htake)
    | exact wpAny_bind (wpAny_bind (m := Builtin.Tuple.tupleExact _) (wpAny_newObj_type (wpAny_pure (wpAny_pure ⟨_, rfl, wpAny_pure h⟩)) htake))
    | exact wpAny_bind (wpAny_bind (m := Builtin.Tuple.tupleExact _) (wpAny_newObj_type (wpAny_pure ⟨_, rfl, wpAny_pure h⟩) htake))
end
theorem rev_str (z : List Nat) : ((Builtin.Str.strSliceIndices none none (-1) (sV z).length).filterMap ((sV z).cps[·]?)) = z.reverse := by
  have e : Builtin.Str.strSliceIndices none none (-1) (sV z).length = sliceRange (((sV z).length : Int) - 1) (-1) (-1) := rfl
  rw [e, PySem.W.krv_sliceRange, PySem.W.krv_range, List.filterMap_reverse]
  congr 1
  refine List.ext_getElem? fun i => ?_
  have key : ∀ n, n ≤ (sV z).length → (List.range n).filterMap ((sV z).cps[·]?) = z.take n := fun n => by
    induction n with
    | zero => simp
    | succ n ih =>
      intro hn
      have hlt : n < z.length := by rw [sV_len] at hn; omega
      rw [List.range_succ, List.filterMap_append, ih (by omega), List.take_add_one, List.getElem?_eq_getElem hlt]
      have e3 : (sV z).cps[n]? = some z[n] := by
        rw [← Array.getElem?_toList]
        exact List.getElem?_eq_getElem hlt
      simp only [List.filterMap_cons, e3, List.filterMap_nil]
      rfl
  rw [key _ (Nat.le_refl _), List.take_of_length_le (by rw [sV_len]; exact Nat.le_refl _)]
section
variable {X : L2.Cx} {G : Ge} {W : WX} {a : Expr} {ma : En → R} {k : Nat} {p1 p2 p3 pos : Pos}
theorem pe_revD (hK : X.K = G.K) (ha : PE X a (tE G W ma)) : PE X (.Subscript a (.Slice none none (some (.UnaryOp .USub (.Constant (.int 1) k p1) p2)) p3) pos) (tE G W fun ρ => (ma ρ).bnd fun x => slD (fun xs => xs.reverse) x) := by
  refine ⟨fun pins s σ H Q I h => ?_⟩
  obtain ⟨F, ρ, E, p⟩ := h
  refine Subscript_ (thn (ha.run pins s σ H _ I ⟨F, ρ, E, Post.w p (fun v H' => ∃ d, Same H H' ∧ RepW G F H' v d ∧ Post G F W σ H' Q (slD (fun xs => xs.reverse) d)) fun d v H' e q p' => ⟨d, e, q, p'⟩⟩) fun v s1 ⟨x, H1, I1, r1, d, e1, rx, q⟩ => ?_)
  have dom := (E.up e1).dom
  have hst : PO X (some (.UnaryOp .USub (.Constant (.int 1) k p1) p2)) (tPart (tUn (rU fun i => .int (-i)) (tC (.int 1)))) := po_some (pe_un un_neg pe_int)
  refine wpAny_Slice (thn (po_none.run pins s1 σ H1 (fun o H2 => o = none ∧ H2 = H1) I1 ⟨rfl, rfl⟩) fun vl s2 ⟨l, H2, I2, pl, el, e2⟩ => ?_)
  subst el e2
  refine thn (po_none.run pins s2 σ H2 (fun o H3 => o = none ∧ H3 = H2) I2 ⟨rfl, rfl⟩) fun vu s3 ⟨u, H3, I3, pu, eu, e3⟩ => ?_
  subst eu e3
  refine thn (hst.run pins s3 σ H3 (fun o H4 => o = some (-1) ∧ H4 = H3) I3 ⟨1, rfl, -1, rfl, rfl, rfl⟩) fun vs s4 ⟨o, H4, I4, ps, eo, e4⟩ => ?_
  subst eo e4
  have I5 : Inv X pins σ H4 { s4 with heap := s4.heap.push { cls := .type "slice", data := .fields #[vl, vu, vs] } } := I4.kept (t' := s4.toks) fun b ob q => Heap.get?_push_of_some _ q
  cases pl
  cases pu
  unfold slD at q
  split at q
  · obtain ⟨a1, v1, e1, s1', l1, q1, w1⟩ := rx.tup
    subst e1
    cases (show v = .ref a1 from r1)
    obtain ⟨its, r, ht, hz⟩ := I5.tuple (by rw [hK]; exact s1')
    have hlen := r.length
    show wpAny (model X.prog X.w) X.A (subscriptTail a (.Slice none none (some (.UnaryOp .USub (.Constant (.int 1) k p1) p2)) p3) (.ref a1) (.ref s4.heap.objs.size)) (EP X pins σ Q) X.xe _
    refine tail_any (ops := [.ref a1, .ref s4.heap.objs.size]) (show _ from ht.typeIs) (PyProof.Rows.slot_tuple_getitem.lookup) ?_ (by with_unfolding_all rfl)
    refine getItem_tuple_rev ht (Heap.IsSliceOf.new _ .none .none vs) ps ?_ (by rw [List.size_toArray]; omega)
    refine ⟨.ref _, _, I5.laid (t' := s4.toks) (o := .tup v1.reverse) (fun b ob q => Heap.get?_push_of_some _ q) (Nat.le_refl _) ?_, rfl, q _ _ (same_upd (I5.hok.fresh (Nat.le_refl _))) (new_tup dom (I5.hok.fresh (Nat.le_refl _)) (by rw [List.length_reverse]; exact l1) q1.rev)⟩
    exact ⟨by rw [List.length_reverse]; exact hz, _, r.reverse, IsTup.new _ _⟩
  · obtain ⟨a1, v1, e1, s1', l1, q1⟩ := rx.lst
    subst e1
    cases (show v = .ref a1 from r1)
    obtain ⟨its, r, ht, hz⟩ := I5.list (.inl (.inl s1'))
    have hlen := r.length
    show wpAny (model X.prog X.w) X.A (subscriptTail a (.Slice none none (some (.UnaryOp .USub (.Constant (.int 1) k p1) p2)) p3) (.ref a1) (.ref s4.heap.objs.size)) (EP X pins σ Q) X.xe _
    refine tail_any (ops := [.ref a1, .ref s4.heap.objs.size]) ht.isList.typeIs (PySem.slot_list_getitem.lookup) ?_ (by with_unfolding_all rfl)
    refine wpAny_getItem_list_slice ht.isList (Heap.IsSliceOf.new _ .none .none vs) .none .none ps (by decide) ?_ (by rw [List.size_toArray]; omega)
    rw [PySem.W.krv_pick]
    refine ⟨.ref _, _, I5.laid (t' := s4.toks) (o := .lst v1.reverse) (fun b ob q => Heap.get?_push_of_some _ q) (Nat.le_refl _) ?_, rfl, q _ _ (same_upd (I5.hok.fresh (Nat.le_refl _))) (new_lst dom (I5.hok.fresh (Nat.le_refl _)) (by rw [List.length_reverse]; exact l1) q1.rev)⟩
    exact ⟨by rw [List.length_reverse]; exact hz, _, 0, r.reverse, Heap.get?_push_size _ rfl⟩
  · rename_i z
    obtain ⟨e1, s1'⟩ := rx.str
    subst e1
    obtain ⟨t, rfl⟩ := (show ∃ t, v = .str (sV z) t from r1)
    show wpAny (model X.prog X.w) X.A (subscriptTail a (.Slice none none (some (.UnaryOp .USub (.Constant (.int 1) k p1) p2)) p3) (.str (sV z) t) (.ref s4.heap.objs.size)) (EP X pins σ Q) X.xe _
    obtain ⟨u, rfl, hu⟩ := IsPart.raw ps
    refine tail_any (ops := [.ref s4.heap.objs.size, .str (sV z) t]) (typeIs_str _ _ _) PySem.F.slot_str_getitem.lookup ?_ (by with_unfolding_all rfl)
    refine wpAny_getItem_str_slice (l := none) (u := none) (st := u) ⟨_, Heap.get?_push_size _ rfl, rfl, rfl⟩ (by rw [hu]; rfl) ?_
    have e5 : slicePicked (sV z) none none u = Builtin.Str.strSliceIndices none none (-1) (sV z).length := by
      unfold slicePicked
      rw [hu]
      rfl
    unfold sliceMade
    rw [e5, hu, rev_str]
    rw [if_neg (by simp)]
    refine ⟨?_, .str (sV z.reverse), H4, I5.tok _, ⟨_, rfl⟩, q.ok (.str _ (s1'.sub (by rw [List.length_reverse]; exact s1'.len) fun c hc => List.mem_reverse.mp hc))⟩
    show (z.reverse.toArray).size ≤ sizeLine
    rw [List.size_toArray, List.length_reverse]
    exact s1'.len
  · exact q.elim
end
/-! ### methods of texts -/
section
variable {X : L2.Cx} {G : Ge} {W : WX}
theorem MtR.by {id : String} {r : V → List V → Hp → VK → Prop} (h : ∀ v us H Q, r v us H Q → ∃ r', MtR X id r' ∧ r' v us H Q) : MtR X id r := by
  intro pins s σ H x xs v us Q I rx rs q
  obtain ⟨r', o, q'⟩ := h x xs H Q q
  exact o pins s σ H x xs v us Q I rx rs q'
def rmD (G : Ge) (W : WX) (m : Me) : V → List V → Hp → VK → Prop := fun v us H Q => ∃ F d ds σ, RepW G F H v d ∧ RepWs G F H us ds ∧ (∀ a, F a → ∃ o, H a = some o) ∧ Post G F W σ H Q (meD m d ds)
theorem meK_str {m : Me} {d : D} (hm : meS m = true) (h : meK m d = true) : ∃ s, d = .str s := by
  have e : isStrD d = true := by cases m <;> first | exact h | cases hm
  cases d <;> first | exact ⟨_, rfl⟩ | cases e
variable {a b : Expr} {ma mb : En → R} {apos pos : Pos} {name : Str} {id : String} {m : Me}
theorem pe_me0D (slot : Slot "str" name id) (ty : typeOf (.builtin id) = pure (.type "method_descriptor")) (rule : MtR X id (rmD G W m)) (ha : PE X a (tE G W ma)) (hbase : attributeBase a name X.env (eval a X.env) = eval a X.env) (hline : (apos.endLine == pos.line) = true) (hms : meS m = true := by rfl) :
    PE X (.Call (.Attribute a name apos) [] [] pos) (tE G W fun ρ => (ma ρ).bnd fun x => meR m x (.ok [])) := PE.imp (pe_m0 slot ty rule ha hbase hline) fun σ H Q h => by
  obtain ⟨F, ρ, E, p⟩ := h
  refine ⟨F, ρ, E, Post.w p _ fun d v H' e q p' => ?_⟩
  unfold meR at p'
  obtain ⟨z, p'⟩ := if_ok (P := Post G F W σ H' Q) p' (fun z => z)
  obtain ⟨s, rfl⟩ := meK_str hms z
  exact ⟨⟨sV s, q.str.1⟩, F, .str s, [], σ, q, .nil, (E.up e).dom, p'⟩
theorem pe_me1D (slot : Slot "str" name id) (ty : typeOf (.builtin id) = pure (.type "method_descriptor")) (rule : MtR X id (rmD G W m)) (ha : PE X a (tE G W ma)) (hb : PE X b (tE G W mb)) (hs : starEach [b] X.env = [(false, eval b X.env)]) (hbase : attributeBase a name X.env (eval a X.env) = eval a X.env) (hline : (apos.endLine == pos.line) = true) (hms : meS m = true := by rfl) :
    PE X (.Call (.Attribute a name apos) [b] [] pos) (tE G W fun ρ => (ma ρ).bnd fun x => meR m x (consW (mb ρ) (.ok []))) := PE.imp (pe_m1 slot ty rule ha hb hs hbase hline) fun σ H Q h => by
  obtain ⟨F, ρ, E, p⟩ := h
  refine ⟨F, ρ, E, Post.w p _ fun d v H' e q p' => ?_⟩
  unfold meR at p'
  obtain ⟨z, p'⟩ := if_ok (P := Post G F W σ H' Q) p' (fun z => z)
  obtain ⟨s, rfl⟩ := meK_str hms z
  refine ⟨⟨sV s, q.str.1⟩, F, ρ, E.up e, ?_⟩
  cases hr : mb ρ with
  | ok d2 =>
    rw [hr] at p'
    exact fun u H2 e2 r2 => ⟨F, .str s, [d2], σ, q.up e2, .cons (.inl r2) .nil, (E.up (e.trans e2)).dom, Post.up (r := meD m (.str s) [d2]) p' e2⟩
  | okm xs =>
    rw [hr] at p'
    exact fun u H2 e2 r2 => ⟨F, .str s, [.lst xs], σ, q.up e2, .cons (.inr ⟨xs, rfl, r2⟩) .nil, (E.up (e.trans e2)).dom, Post.up (r := meD m (.str s) [.lst xs]) p' e2⟩
  | exc c => rw [hr] at p'; exact p'
  | bad => rw [hr] at p'; exact p'
theorem upper_of : ∀ c, c < 128 → ∃ d, upC c = some d ∧ Unicode.upperOf c = [d] := by
  have h : ∀ c ∈ List.range 128, (match upC c with | some d => Unicode.upperOf c == [d] | none => false) = true := by decide +kernel
  intro c hc
  have := h c (List.mem_range.mpr hc)
  cases e : upC c with
  | none => rw [e] at this; cases this
  | some d => rw [e] at this; exact ⟨d, rfl, eq_of_beq this⟩
theorem upC_lt {c d : Nat} (h : upC c = some d) : c < 128 := by
  unfold upC at h
  split at h
  · omega
  · split at h
    · omega
    · split at h
      · omega
      · cases h
theorem upC_out {c d : Nat} (h : upC c = some d) : d < 128 := by
  unfold upC at h
  split at h
  · cases h; omega
  · split at h
    · cases h; omega
    · split at h
      · cases h; omega
      · cases h
theorem mapO_all {s t : List Nat} (h : mapO upC s = some t) : t.length = s.length ∧ (∀ c ∈ t, c < 128) ∧ s.map Unicode.upperOf = t.map fun c => [c] := by
  induction s generalizing t with
  | nil => cases h; exact ⟨rfl, fun c hc => absurd hc (by simp), rfl⟩
  | cons c s ih =>
    unfold mapO at h
    split at h
    · rename_i y hy
      obtain ⟨t', h1, rfl⟩ := Option.map_eq_some_iff.mp h
      obtain ⟨l, a, e⟩ := ih h1
      obtain ⟨d, hd, hu⟩ := upper_of c (upC_lt hy)
      rw [hy] at hd
      cases hd
      refine ⟨congrArg Nat.succ l, fun k hk => ?_, ?_⟩
      · rcases List.mem_cons.mp hk with z | z
        · rw [z]; exact upC_out hy
        · exact a k z
      · rw [List.map_cons, List.map_cons, hu, e]
    · cases h
theorem flat_one (t : List Nat) : (t.map fun c => [c]).flatten = t := by
  induction t with
  | nil => rfl
  | cons c t ih => rw [List.map_cons, List.flatten_cons, ih]; rfl
theorem upper_str {s t : List Nat} (h : mapO upC s = some t) : Txt.upper (sV s) = sV t := by
  obtain ⟨_, _, e⟩ := mapO_all h
  unfold Txt.upper placed sV
  show (⟨_⟩ : Str) = ⟨_⟩
  congr 1
  refine Array.toList_inj.mp ?_
  have e2 : (s.toArray.mapIdx fun (i : Nat) (c : Nat) => (Unicode.upperOf c).toArray) = ((s.map Unicode.upperOf).map List.toArray).toArray := by
    refine Array.toList_inj.mp ?_
    simp [Array.toList_mapIdx, List.map_map]
    refine List.ext_getElem? fun i => ?_
    simp
    rfl
  rw [e2, e]
  simp
  exact flat_one t
theorem mt_upperD : MtR X "str.upper" (rmD G W .upper) := MtR.by fun v us H Q ⟨F, d, ds, σ, r, rs, dom, h⟩ => by
  cases d <;> try exact (show False from h).elim
  cases ds <;> try exact (show False from h).elim
  rename_i s
  cases rs
  obtain ⟨e1, s1⟩ := r.str
  obtain ⟨z, h⟩ := if_ok (P := Post G F W σ H Q) h (fun z => z)
  cases e : mapO upC s with
  | none => rw [e] at h; exact h.elim
  | some t =>
    rw [e] at h
    obtain ⟨l, a, _⟩ := mapO_all e
    refine ⟨_, mt_upper, sV s, e1, rfl, by rw [sV_len]; exact z, ?_⟩
    rw [upper_str e]
    exact h.ok (.str t ⟨by rw [l]; exact s1.len, fun c hc => Nat.lt_of_lt_of_le (a c hc) (by decide)⟩)
theorem join_str (z : List Nat) : ∀ xs : List (List Nat), Str.join (sV z) (xs.map sV) = sV (joinS z xs)
  | [] => rfl
  | [x] => rfl
  | x :: y :: r => by
    have ih := join_str z (y :: r)
    show sV x ++ sV z ++ Str.join (sV z) ((y :: r).map sV) = sV (x ++ z ++ joinS z (y :: r))
    rw [ih, sV_app, sV_app]
theorem joinS_len (z : List Nat) : ∀ xs : List (List Nat), (joinS z xs).length ≤ (xs.map List.length).sum + z.length * xs.length
  | [] => Nat.zero_le _
  | [x] => by simp [joinS]
  | x :: y :: r => by
    have ih := joinS_len z (y :: r)
    show (x ++ z ++ joinS z (y :: r)).length ≤ _
    rw [List.length_append, List.length_append]
    simp only [List.map_cons, List.sum_cons, List.length_cons, Nat.mul_add, Nat.mul_one] at ih ⊢
    omega
theorem joinS_mem {z : List Nat} {c : Nat} : ∀ {xs : List (List Nat)}, c ∈ joinS z xs → c ∈ z ∨ ∃ x ∈ xs, c ∈ x
  | [], h => absurd h (by simp [joinS])
  | [x], h => .inr ⟨x, by simp, h⟩
  | x :: y :: r, h => by
    replace h : c ∈ x ++ z ++ joinS z (y :: r) := h
    rcases List.mem_append.mp h with h | h
    · rcases List.mem_append.mp h with h | h
      · exact .inr ⟨x, by simp, h⟩
      · exact .inl h
    · rcases joinS_mem h with h | ⟨w, h1, h2⟩
      · exact .inl h
      · exact .inr ⟨w, List.mem_cons_of_mem _ h1, h2⟩
theorem RepL.sok {H : Hp} : ∀ {vs : List V} {xs : List (List Nat)}, RepL G H vs (xs.map D.str) → ∀ x ∈ xs, SOk x
  | _, [], _, _, h => absurd h (by simp)
  | _, y :: r, h, x, hx => by
    rw [List.map_cons] at h
    cases h with
    | cons h1 h2 =>
      rcases List.mem_cons.mp hx with e | hx
      · subst e
        cases h1 with | str _ q => exact q
      · exact RepL.sok h2 x hx
theorem mt_joinD (hK : X.K = G.K) : MtR X "str.join" (rmD G W .join) := MtR.by fun v us H Q ⟨F, d, ds, σ, r, rs, dom, h⟩ => by
  cases d <;> try exact (show False from h).elim
  rename_i z
  match ds, rs, h with
  | [], _, h => exact (show False from h).elim
  | _ :: _ :: _, _, h => exact (show False from h).elim
  | [d], rs, h =>
    obtain ⟨e1, s1⟩ := r.str
    obtain ⟨u, e2, r2⟩ := rs.one
    subst e2
    replace h : Post G F W σ H Q (match (itemsD d).bind strsOf with
      | some xs => if (xs.map List.length).sum + z.length * xs.length ≤ lim then .ok (.str (joinS z xs)) else .bad
      | none => .bad) := h
    cases e : (itemsD d).bind strsOf with
    | none => rw [e] at h; exact h.elim
    | some xs =>
      rw [e] at h
      obtain ⟨w, h⟩ := if_ok (P := Post G F W σ H Q) h (fun z => z)
      rw [lim_eq] at w
      obtain ⟨ys, e3, e4⟩ := Option.bind_eq_some_iff.mp e
      have e5 := strsOf_eq e4
      subst e5
      have ok : ∀ {vs : List V}, RepL G (sol H F) vs (xs.map D.str) → SOk (joinS z xs) := fun q => ⟨Nat.le_trans (joinS_len z xs) w, fun c hc => by
        rcases joinS_mem hc with hc | ⟨x, h1, h2⟩
        · exact s1.ch c hc
        · exact (q.sok x h1).ch c h2⟩
      have len : ((xs.map sV).map (·.length)).sum + (xs.map sV).length * (sV z).length ≤ 16777216 := by
        rw [List.map_map, sV_len, List.length_map, Nat.mul_comm]
        have e6 : ((fun x : Str => x.length) ∘ sV) = List.length := funext fun x => sV_len x
        rw [e6, ← sizeLine_eq]
        exact w
      have fin : ∀ {vs : List V}, RepL G (sol H F) vs (xs.map D.str) → Q (.str (Txt.join (sV z) (xs.map sV))) H := fun q => by
        have e7 : Txt.join (sV z) (xs.map sV) = sV (joinS z xs) := (StrLaws.glued_eq_join _ _).trans (join_str z xs)
        rw [e7]
        exact h.ok (.str _ (ok q))
      cases d with
      | tup ys =>
        cases e3
        obtain ⟨a1, v1, e8, s2, l1, q1, w1⟩ := r2.tup
        subst e8
        have e9 : v1 = (xs.map sV).map V.str := by rw [q1.strs, List.map_map]; rfl
        exact ⟨_, mt_join, sV z, a1, xs.map sV, e1, rfl, .inr (by rw [← e9, hK]; exact s2), len, fin q1⟩
      | lst ys =>
        cases e3
        obtain ⟨a1, v1, e8, s2, l1, q1⟩ := r2.lst
        subst e8
        have e9 : v1 = (xs.map sV).map V.str := by rw [q1.strs, List.map_map]; rfl
        exact ⟨_, mt_join, sV z, a1, xs.map sV, e1, rfl, .inl (by rw [← e9]; exact .inl (.inl s2)), len, fin q1⟩
      | _ => cases e3
end
/-! ### new lists, for names that hold them to be changed -/
section
variable {X : L2.Cx} {G : Ge} {W : WX} {a b : Expr} {ma mb : En → R} {pos : Pos}
theorem PostF.w {F : Addr → Prop} {σ : VS} {H : Hp} {Q : VK} {r : R} {op : D → R} (h : PostF G F W σ H Q (r.bnd op)) (K : VK) (k : ∀ d v H', Same H H' → RepW G F H' v d → PostF G F W σ H' Q (op d) → K v H') : Post G F W σ H K r := by
  have up : ∀ {r : R} {H' : Hp}, PostF G F W σ H Q r → Same H H' → PostF G F W σ H' Q r := fun {r H'} h e => by
    cases r with
    | ok d => cases d with
      | lst xs => exact fun p vs H2 hp e2 => h p vs H2 (e.free hp) (e.trans e2)
      | _ => exact h
    | okm xs => exact h
    | exc c => exact fun H2 e2 => h H2 (e.trans e2)
    | bad => exact h
  cases r with
  | ok d => exact fun v H' e q => k d v H' e (.inl q) (up (r := op d) h e)
  | okm xs => exact fun v H' e q => k (.lst xs) v H' e (.inr ⟨xs, rfl, q⟩) (up (r := op (.lst xs)) h e)
  | exc c => exact h
  | bad => exact h
theorem pe_addF (ha : PE X a (tE G W ma)) (hb : PE X b (tE G W mb)) : PE X (.BinOp a .Add b pos) (tF G W fun ρ => (ma ρ).bnd fun x => (mb ρ).bnd fun y => binD .add x y) := PE.imp (pe_op op_cat ha hb) fun σ H Q h => by
  obtain ⟨F, ρ, E, p⟩ := h
  refine ⟨F, ρ, E, PostF.w p _ fun d v H' e q p' => ⟨F, ρ, E.up e, PostF.w p' _ fun d2 u H2 e2 q2 p2 => ?_⟩⟩
  replace p2 : PostF G F W σ H2 Q (addD d d2) := p2
  unfold addD at p2
  split at p2
  · exact p2.elim
  · obtain ⟨_, p2⟩ := if_ok (P := PostF G F W σ H2 Q) p2 (fun z => z); exact p2.elim
  · obtain ⟨_, p2⟩ := if_ok (P := PostF G F W σ H2 Q) p2 (fun z => z); exact p2.elim
  · obtain ⟨z, p2⟩ := if_ok (P := PostF G F W σ H2 Q) p2 (fun z => z)
    rw [lim_eq] at z
    obtain ⟨a1, v1, e1, s1, l1, q1⟩ := (q.up e2).lst
    obtain ⟨a2, v2, e3, s2, l2, q3⟩ := q2.lst
    subst e1 e3
    refine ⟨a1, a2, v1, v2, rfl, rfl, s1, s2, by rw [q1.len, q3.len]; exact z, fun p hp => p2 p (v1 ++ v2) _ hp (same_upd hp) upd_same (by rw [List.length_append, q1.len, q3.len]; exact z) (new_sol hp (q1.app q3))⟩
  · exact p2.elim
theorem pe_mulF (ha : PE X a (tE G W ma)) (hb : PE X b (tE G W mb)) : PE X (.BinOp a .Mult b pos) (tF G W fun ρ => (ma ρ).bnd fun x => (mb ρ).bnd fun y => binD .mul x y) := PE.imp (pe_op op_rep ha hb) fun σ H Q h => by
  obtain ⟨F, ρ, E, p⟩ := h
  refine ⟨F, ρ, E, PostF.w p _ fun d v H' e q p' => ⟨F, ρ, E.up e, PostF.w p' _ fun d2 u H2 e2 q2 p2 => ?_⟩⟩
  replace p2 : PostF G F W σ H2 Q (mulD d d2) := p2
  unfold mulD at p2
  split at p2
  · obtain ⟨_, p2⟩ := if_ok (P := PostF G F W σ H2 Q) p2 (fun z => z); exact p2.elim
  · obtain ⟨_, p2⟩ := if_ok (P := PostF G F W σ H2 Q) p2 (fun z => z); exact p2.elim
  · obtain ⟨_, p2⟩ := if_ok (P := PostF G F W σ H2 Q) p2 (fun z => z); exact p2.elim
  · rename_i xs k
    obtain ⟨⟨z0, z1⟩, p2⟩ := if_ok (P := PostF G F W σ H2 Q) p2 (fun z => z)
    rw [lim_eq] at z1
    unfold fitI at z0
    rw [Bool.and_eq_true, decide_eq_true_eq, decide_eq_true_eq] at z0
    obtain ⟨a1, v1, e1, s1, l1, q1⟩ := (q.up e2).lst
    subst e1
    have hl : ((List.replicate k.toNat v1).flatten).length ≤ sizeLine := by
      rw [PyProof.Rows.lm_len_rep_flat, q1.len, Nat.mul_comm]; exact z1
    exact ⟨a1, k, v1, rfl, q2.int, s1, z0.1, z0.2, by rw [q1.len]; exact z1, fun p hp => p2 p _ _ hp (same_upd hp) upd_same hl (new_sol hp (q1.rep k.toNat))⟩
  · exact p2.elim
end
end Dk

/-! DkH: a, b = x, y. -/
namespace Dk
open PySem PySem.Spec PyProof.Rows L2
section
variable {G : Ge} {W : WX} {Fc F : Addr → Prop} {B H H' : Hp} {ρ : En} {σ : VS} {v : V} {d : D} {D0 : Ends}
theorem StE.add (S : StE G Fc B F ρ σ H) {p : Addr} {vs : List V} (hp : H p = none) (e : Same H H') (h : H' p = some (.lst vs)) : StE G Fc B (fun a => F a ∨ a = p) ρ σ H' := by
  have Bp : B p = none := by
    cases q : B p with
    | none => rfl
    | some o => have := S.sm _ _ q; rw [hp] at this; cases this
  refine ⟨⟨fun j s q => ?_, fun a f => ?_, S.env.len⟩, fun a f => .inl (S.up a f), fun a f => ?_, S.fc, S.sm.trans e, S.own, S.dis⟩
  · obtain ⟨v, h1, h2⟩ := S.env.slot j s q
    refine ⟨v, h1, ?_⟩
    cases s with
    | im d => exact Rep.up (d := d) h2 (sol_new e hp)
    | mu zs =>
      obtain ⟨a, us, g1, g2, g3, g4, g5⟩ := h2
      exact ⟨a, us, g1, .inl g2, e _ _ g3, g4, g5.up (sol_new e hp)⟩
  · rcases f with f | f
    · obtain ⟨o, z⟩ := S.env.dom a f; exact ⟨o, e _ _ z⟩
    · subst f; exact ⟨_, h⟩
  · rcases f with f | f
    · exact S.dn a f
    · subst f; exact .inr Bp
/-- no name of the frame holds this list to be changed -/
def NoMu (ρ : En) (σ : VS) (a : Addr) : Prop := ∀ (j : Nat) (ys : List D), ρ[j]? = some (some (.mu ys)) → σ[j]? ≠ some (some (.ref a))
theorem StE.putMu (S : StE G Fc B F ρ σ H) {p : Addr} {vs : List V} {xs : List D} (fa : F p) (Bp : B p = none) (np : NoMu ρ σ p) (h : H p = some (.lst vs)) (hl : vs.length ≤ sizeLine) (r : RepL G (sol H F) vs xs) (i : Nat) :
    StE G Fc B F (putM ρ i xs) (σ.set i (some (.ref p))) H := by
  refine ⟨S.env.put (s := .mu xs) ⟨p, vs, rfl, fa, h, hl, r⟩ i, S.up, S.dn, S.fc, S.sm, fun j zs a q1 q2 => ?_, fun j k zs us a q1 q2 q3 q4 => ?_⟩
  · rcases get_set q1 with ⟨e1, z⟩ | ⟨e1, q1⟩
    · subst e1
      rcases get_set q2 with ⟨_, z2⟩ | ⟨z2, _⟩
      · cases z2; exact Bp
      · exact absurd rfl z2
    · rw [List.getElem?_set_ne e1] at q2
      exact S.own j zs a q1 q2
  · rcases get_set q1 with ⟨e1, z⟩ | ⟨e1, q1⟩
    · subst e1
      rcases get_set q2 with ⟨e2, _⟩ | ⟨e2, q2⟩
      · exact e2
      · rw [List.getElem?_set_ne e2] at q4
        rcases get_set q3 with ⟨_, z2⟩ | ⟨z2, _⟩
        · cases z2; exact absurd q4 (np _ _ q2)
        · exact absurd rfl z2
    · rw [List.getElem?_set_ne e1] at q3
      rcases get_set q2 with ⟨e2, _⟩ | ⟨e2, q2⟩
      · subst e2
        rcases get_set q4 with ⟨_, z2⟩ | ⟨z2, _⟩
        · cases z2; exact absurd q3 (np _ _ q1)
        · exact absurd rfl z2
      · rw [List.getElem?_set_ne e2] at q4
        exact S.dis j k zs us a q1 q2 q3 q4
/-- values on the way to their names -/
inductive TmpL (G : Ge) (F : Addr → Prop) (B H : Hp) : (Addr → Prop) → List V → List (Nat × Bool) → List D → Prop
  | nil {N : Addr → Prop} : TmpL G F B H N [] [] []
  | im {N : Addr → Prop} {v : V} {d : D} {i : Nat} {vs : List V} {is : List (Nat × Bool)} {ds : List D} : Rep G (sol H F) v d → TmpL G F B H N vs is ds → TmpL G F B H N (v :: vs) ((i, false) :: is) (d :: ds)
  | mu {N : Addr → Prop} {a : Addr} {ws : List V} {xs : List D} {i : Nat} {vs : List V} {is : List (Nat × Bool)} {ds : List D} : F a → B a = none → N a → H a = some (.lst ws) → ws.length ≤ sizeLine → RepL G (sol H F) ws xs →
      TmpL G F B H (fun b => N b ∧ b ≠ a) vs is ds → TmpL G F B H N (.ref a :: vs) ((i, true) :: is) (.lst xs :: ds)
def stoL : VS → List (Nat × Bool) → List V → VS
  | σ, (i, _) :: is, v :: vs => stoL (σ.set i (some v)) is vs
  | σ, _, _ => σ
theorem tmp_store {N : Addr → Prop} {vs : List V} {is : List (Nat × Bool)} {ds : List D} (T : TmpL G F B H N vs is ds) : ∀ (ρ : En) (σ : VS) (ρ' : En), StE G Fc B F ρ σ H → (∀ a, N a → NoMu ρ σ a) → parL is ds ρ = some ρ' → StE G Fc B F ρ' (stoL σ is vs) H := by
  induction T with
  | nil => intro ρ σ ρ' S _ h; cases h; exact S
  | @im N v d i vs is ds r T ih =>
    intro ρ σ ρ' S hN h
    replace h : parL is ds (putS ρ i d) = some ρ' := h
    refine ih _ _ _ (S.put r i) (fun a na j ys q => ?_) h
    rcases get_set q with ⟨_, z⟩ | ⟨e, q⟩
    · cases z
    · rw [List.getElem?_set_ne e]; exact hN a na j ys q
  | @mu N a ws xs i vs is ds fa ba na ha hl r T ih =>
    intro ρ σ ρ' S hN h
    replace h : parL is ds (putM ρ i xs) = some ρ' := h
    refine ih _ _ _ (S.putMu fa ba (hN a na) ha hl r i) (fun b nb j ys q z => ?_) h
    rcases get_set q with ⟨e, _⟩ | ⟨e, q⟩
    · subst e
      rcases get_set z with ⟨_, z2⟩ | ⟨z2, _⟩
      · cases z2; exact nb.2 rfl
      · exact absurd rfl z2
    · rw [List.getElem?_set_ne e] at z
      exact hN b nb.1 j ys q z
/-- only a list comes of it -/
def lstOnly (f : En → R) : Prop := ∀ ρ, match f ρ with
  | .ok (.lst _) => True
  | .ok _ => False
  | _ => True
def mtE (G : Ge) (W : WX) : Bool → (En → R) → TE
  | true, f => tF G W f
  | false, f => tE G W f
def tPs (G : Ge) (W : WX) : List (Nat × Bool × (En → R)) → TA
  | [] => tNil
  | (_, m, f) :: r => tCons (mtE G W m f) (tPs G W r)
def evP : List (Nat × Bool × (En → R)) → En → Rs
  | [], _ => .ok []
  | (_, _, f) :: r, ρ => consL (f ρ) (evP r ρ)
def isP (ms : List (Nat × Bool × (En → R))) : List (Nat × Bool) := ms.map fun m => (m.1, m.2.1)
theorem tps_ok : ∀ (ms : List (Nat × Bool × (En → R))) (F : Addr → Prop) (H : Hp) (N : Addr → Prop) (Q : List V → Hp → Prop), StE G Fc B F ρ σ H → (∀ a, H a = none → N a) → (∀ m ∈ ms, m.2.1 = true → lstOnly m.2.2) →
    (match evP ms ρ with
      | .ok ds => ∀ (vs : List V) (F1 : Addr → Prop) (H1 : Hp), StE G Fc B F1 ρ σ H1 → Same H H1 → (∀ a, F a → F1 a) → (∀ a, F1 a → F a ∨ H a = none) → TmpL G F1 B H1 N vs (isP ms) ds → Q vs H1
      | .exc c => ∀ H1, Same H H1 → W (.ref (G.ea c)) none σ H1
      | .bad => False) → tPs G W ms σ H Q
  | [], F, H, N, Q, S, hN, hl, p => p [] F H S (Same.refl H) (fun _ h => h) (fun _ h => .inl h) .nil
  | (i, m, f) :: r, F, H, N, Q, S, hN, hl, p => by
    have hl' : ∀ m ∈ r, m.2.1 = true → lstOnly m.2.2 := fun m hm => hl m (List.mem_cons_of_mem _ hm)
    have back : ∀ {H1 : Hp} {a : Addr}, Same H H1 → H1 a = none → H a = none := fun {H1 a} e h => by
      cases q : H a with
      | none => rfl
      | some o => have := e _ _ q; rw [h] at this; cases this
    have lift : ∀ {F1 F2 : Addr → Prop} {H1 H2 : Hp}, Same H1 H2 → (∀ a, F2 a → F1 a ∨ H1 a = none) → Same (sol H1 F1) (sol H2 F2) := fun {F1 F2 H1 H2} e k b o h => by
      obtain ⟨f, h⟩ := sol_of h
      rw [sol_at fun z => (k b z).elim f fun z => by rw [h] at z; cases z]
      exact e _ _ h
    have p0 : (match consL (f ρ) (evP r ρ) with
      | .ok ds => ∀ (vs : List V) (F1 : Addr → Prop) (H1 : Hp), StE G Fc B F1 ρ σ H1 → Same H H1 → (∀ a, F a → F1 a) → (∀ a, F1 a → F a ∨ H a = none) → TmpL G F1 B H1 N vs ((i, m) :: isP r) ds → Q vs H1
      | .exc c => ∀ H1, Same H H1 → W (.ref (G.ea c)) none σ H1
      | .bad => False) := p
    cases m with
    | false =>
      refine ⟨F, ρ, S.env, ?_⟩
      cases hf : f ρ with
      | exc c => rw [hf] at p0; exact p0
      | okm xs => rw [hf] at p0; exact p0.elim
      | bad => rw [hf] at p0; exact p0.elim
      | ok d =>
        rw [hf] at p0
        intro v H1 e r1
        refine tps_ok r F H1 N _ (S.grow e) (fun a h => hN a (back e h)) hl' ?_
        cases hr : evP r ρ with
        | ok ds =>
          rw [hr] at p0
          intro vs F2 H2 S2 e2 k1 k2 T
          exact p0 (v :: vs) F2 H2 S2 (e.trans e2) k1 (fun a h => (k2 a h).imp id (back e)) (.im (r1.up (lift e2 k2)) T)
        | exc c => rw [hr] at p0; exact fun H2 e2 => p0 H2 (e.trans e2)
        | bad => rw [hr] at p0; exact p0
    | true =>
      refine ⟨F, ρ, S.env, ?_⟩
      have lo := hl _ (List.mem_cons_self ..) rfl ρ
      replace lo : (match f ρ with
        | .ok (.lst _) => True
        | .ok _ => False
        | _ => True) := lo
      cases hf : f ρ with
      | exc c => rw [hf] at p0; exact p0
      | okm xs => rw [hf] at p0; exact p0.elim
      | bad => rw [hf] at p0; exact p0.elim
      | ok d =>
        rw [hf] at p0 lo
        cases d with
        | lst xs =>
          intro q ws H1 hq e h2 hl2 r1
          have Bq : B q = none := by
            cases z : B q with
            | none => rfl
            | some o => have := S.sm _ _ z; rw [hq] at this; cases this
          refine tps_ok r (fun a => F a ∨ a = q) H1 (fun b => N b ∧ b ≠ q) _ (S.add hq e h2) (fun a h => ⟨hN a (back e h), fun z => by subst z; rw [h2] at h; cases h⟩) hl' ?_
          cases hr : evP r ρ with
          | ok ds =>
            rw [hr] at p0
            intro vs F2 H2 S2 e2 k1 k2 T
            refine p0 (.ref q :: vs) F2 H2 S2 (e.trans e2) (fun a h => k1 a (.inl h)) (fun a h => ?_) (.mu (k1 q (.inr rfl)) Bq (hN q hq) (e2 _ _ h2) hl2 (r1.up (lift e2 k2)) T)
            rcases k2 a h with (h | h) | h
            · exact .inl h
            · subst h; exact .inr hq
            · exact .inr (back e h)
          | exc c => rw [hr] at p0; exact fun H2 e2 => p0 H2 (e.trans e2)
          | bad => rw [hr] at p0; exact p0
        | _ => exact lo.elim
/-- the pair's values, then their names -/
theorem par_ok {ms : List (Nat × Bool × (En → R))} {D : Ends} {Q : List V → Hp → Prop} (hl : ∀ m ∈ ms, m.2.1 = true → lstOnly m.2.2) (S : StE G Fc B F ρ σ H) (p : PFl G Fc W B D ((evP ms ρ).thn ρ fun ds => ofO (parL (isP ms) ds ρ)))
    (k : ∀ vs H1, vs.length = ms.length → D.nx (stoL σ (isP ms) vs) H1 → Q vs H1) : tPs G W ms σ H Q := by
  have hlen : ∀ {N F1 H1 vs is ds}, TmpL G F1 B H1 N vs is ds → vs.length = is.length := fun T => by
    induction T with
    | nil => rfl
    | im _ _ ih => exact congrArg Nat.succ ih
    | mu _ _ _ _ _ _ _ ih => exact congrArg Nat.succ ih
  refine tps_ok ms F H (fun a => H a = none) Q S (fun _ h => h) hl ?_
  cases hr : evP ms ρ with
  | ok ds =>
    rw [hr] at p
    intro vs F1 H1 S1 e k1 k2 T
    replace p : PFl G Fc W B D (ofO (parL (isP ms) ds ρ)) := p
    cases hp : parL (isP ms) ds ρ with
    | none => rw [hp] at p; exact p.elim
    | some ρ' =>
      rw [hp] at p
      have lv := hlen T
      refine k vs H1 (by rw [lv]; unfold isP; rw [List.length_map]) (p _ _ ⟨F1, tmp_store T ρ σ ρ' S1 (fun a na j ys q z => ?_) hp⟩)
      obtain ⟨b, us, g1, g2, g3, _⟩ := S.env.muAt q
      rw [z] at g1
      cases g1
      rw [na] at g3; cases g3
  | exc c => rw [hr] at p; exact fun H1 e => p σ H1 ⟨F, S.grow e⟩
  | bad => rw [hr] at p; exact p
end
end Dk

namespace Dk
open PySem PySem.Spec PyProof.Rows L2
def nstar : Expr → Bool
  | .Starred .. => true
  | _ => false
theorem swapped_fold {t : Expr} {vs : List Expr} {k : Nat} {p : Pos} {env : Env} (h : vs.all (foldedForSure 8) = true) : swappedStores [t] (.Tuple vs k p) env = pure none := by
  unfold swappedStores
  cases t <;> simp [h]
  all_goals (repeat' split) <;> first | rfl | simp_all
theorem swapped_two {x y : Str} {a b : Expr} {px py pt p : Pos} {kt k : Nat} {env : Env} (hx : env.kindOf x = some .local) (hy : env.kindOf y = some .local) (hf : env.blockKind = .function) (hl : (py.line == px.line) = true) (hxy : (x == y) = false) (hyx : (y == x) = false)
    (h1 : nstar a = false) (h2 : nstar b = false) (h3 : [a, b].all (foldedForSure 8) = false) (h4 : [a, b].all (constantsAlone 8) = false) : swappedStores [.Tuple [.Name x px, .Name y py] kt pt] (.Tuple [a, b] k p) env = pure (some [x, y]) := by
  have s1 : ¬ (nstar a = true ∨ nstar b = true) := by rw [h1, h2]; simp
  have hxy2 : ¬ x = y := fun z => by rw [z] at hxy; simp at hxy
  have hyx2 : ¬ y = x := fun z => hxy2 z.symm
  have hl2 : py.line = px.line := by simpa using hl
  unfold swappedStores
  simp only [List.all_cons, List.all_nil, Bool.and_true] at h3 h4
  simp [hx, hy, hf, hl2, h3, h4, Expr.pos]
  refine (if_neg (show ¬ (nstar a = true ∨ nstar b = true) from s1)).trans ?_
  simp [List.eraseDups, List.eraseDupsBy, List.eraseDupsBy.loop, hxy, hyx]
theorem swapped_three {x y z : Str} {a b c : Expr} {px py pz pt p : Pos} {kt k : Nat} {env : Env} (hx : env.kindOf x = some .local) (hy : env.kindOf y = some .local) (hz : env.kindOf z = some .local) (hf : env.blockKind = .function) (hl : (py.line == px.line) = true) (hl2 : (pz.line == px.line) = true)
    (hxy : (x == y) = false) (hyx : (y == x) = false) (hxz : (x == z) = false) (hzx : (z == x) = false) (hyz : (y == z) = false) (hzy : (z == y) = false)
    (h1 : nstar a = false) (h2 : nstar b = false) (h3 : nstar c = false) (h4 : [a, b, c].all (foldedForSure 8) = false) (h5 : [a, b, c].all (constantsAlone 8) = false) : swappedStores [.Tuple [.Name x px, .Name y py, .Name z pz] kt pt] (.Tuple [a, b, c] k p) env = pure (some [x, y, z]) := by
  have s1 : ¬ (nstar a = true ∨ nstar b = true ∨ nstar c = true) := by rw [h1, h2, h3]; simp
  have hl3 : py.line = px.line := by simpa using hl
  have hl4 : pz.line = px.line := by simpa using hl2
  unfold swappedStores
  simp only [List.all_cons, List.all_nil, Bool.and_true] at h4 h5
  simp [hx, hy, hz, hf, hl3, hl4, h4, h5, Expr.pos]
  refine (if_neg (show ¬ (nstar a = true ∨ nstar b = true ∨ nstar c = true) from s1)).trans ?_
  simp [List.eraseDups, List.eraseDupsBy, List.eraseDupsBy.loop, hxy, hyx, hxz, hzx, hyz, hzy]
variable {G : Ge} {W : WX} {Fc : Addr → Prop} {B : Hp} {X : L2.Cx} {f1 f2 f3 : En → R}
theorem par_each {X : L2.Cx} {m : Bool} {f : En → R} {e : Expr} (h1 : m = false → PE X e (tE G W f)) (h2 : m = true → PE X e (tF G W f)) : PE X e (mtE G W m f) := by
  cases m with
  | true => exact h2 rfl
  | false => exact h1 rfl
theorem star1 {e : Expr} {es : List Expr} {env : Env} (h : nstar e = false) : starEach (e :: es) env = (false, eval e env) :: starEach es env := by
  cases e <;> first | rfl | cases h
theorem ps_par2D {i j : Nat} {m1 m2 : Bool} {x y : Str} {a b : Expr} {px py pt pos : Pos} {kt k2 : Nat} {pt2 : Pos} (hc : X.calm = true) (hN : X.N.Nodup) (hi : X.N[i]? = some x) (hj : X.N[j]? = some y) (hij : i ≠ j)
    (hx : X.env.scope.names.lookup x = some .local) (hy : X.env.scope.names.lookup y = some .local) (ha : PE X a (mtE G W m1 f1)) (hb : PE X b (mtE G W m2 f2)) (l1 : m1 = true → lstOnly f1) (l2 : m2 = true → lstOnly f2) (n1 : nstar a = false) (n2 : nstar b = false)
    (hw : swappedStores [.Tuple [.Name x px, .Name y py] kt pt] (.Tuple [a, b] k2 pt2) X.env = pure (some [x, y])) :
    PS X (.Assign [.Tuple [.Name x px, .Name y py] kt pt] (.Tuple [a, b] k2 pt2) pos) (tS G W Fc B fun ρ => (consL (f1 ρ) (consL (f2 ρ) (.ok []))).thn ρ fun ds => ofO (parL [(i, m1), (j, m2)] ds ρ)) :=
  PS.imp (ps_par (ta := tPs G W [(i, m1, f1), (j, m2, f2)]) hc hN hi hj hij hx hy (pa_cons ha (pa_cons hb pa_nil (star1 n2)) (star1 n1)) hw) fun D σ H h => by
    obtain ⟨ρ, ⟨F, S⟩, p⟩ := h
    refine par_ok (ms := [(i, m1, f1), (j, m2, f2)]) (D := D) (fun m hm => ?_) S p fun vs H1 hl hk => ?_
    · simp at hm
      rcases hm with rfl | rfl
      · exact l1
      · exact l2
    · match vs, hl with
      | [v, w], _ => exact ⟨v, w, rfl, hk⟩
theorem ps_par3D {i j l : Nat} {m1 m2 m3 : Bool} {x y z : Str} {a b c : Expr} {px py pz pt pos : Pos} {kt k2 : Nat} {pt2 : Pos} (hc : X.calm = true) (hN : X.N.Nodup) (hi : X.N[i]? = some x) (hj : X.N[j]? = some y) (hl : X.N[l]? = some z) (hij : i ≠ j) (hil : i ≠ l) (hjl : j ≠ l)
    (hx : X.env.scope.names.lookup x = some .local) (hy : X.env.scope.names.lookup y = some .local) (hz : X.env.scope.names.lookup z = some .local) (ha : PE X a (mtE G W m1 f1)) (hb : PE X b (mtE G W m2 f2)) (hc' : PE X c (mtE G W m3 f3)) (l1 : m1 = true → lstOnly f1) (l2 : m2 = true → lstOnly f2) (l3 : m3 = true → lstOnly f3) (n1 : nstar a = false) (n2 : nstar b = false) (n3 : nstar c = false)
    (hw : swappedStores [.Tuple [.Name x px, .Name y py, .Name z pz] kt pt] (.Tuple [a, b, c] k2 pt2) X.env = pure (some [x, y, z])) :
    PS X (.Assign [.Tuple [.Name x px, .Name y py, .Name z pz] kt pt] (.Tuple [a, b, c] k2 pt2) pos) (tS G W Fc B fun ρ => (consL (f1 ρ) (consL (f2 ρ) (consL (f3 ρ) (.ok [])))).thn ρ fun ds => ofO (parL [(i, m1), (j, m2), (l, m3)] ds ρ)) :=
  PS.imp (ps_par3 (ta := tPs G W [(i, m1, f1), (j, m2, f2), (l, m3, f3)]) hc hN hi hj hl hij hil hjl hx hy hz (pa_cons ha (pa_cons hb (pa_cons hc' pa_nil (star1 n3)) (star1 n2)) (star1 n1)) hw) fun D σ H h => by
    obtain ⟨ρ, ⟨F, S⟩, p⟩ := h
    refine par_ok (ms := [(i, m1, f1), (j, m2, f2), (l, m3, f3)]) (D := D) (fun m hm => ?_) S p fun vs H1 hl hk => ?_
    · simp at hm
      rcases hm with rfl | rfl | rfl
      · exact l1
      · exact l2
      · exact l3
    · match vs, hl with
      | [v, w, u], _ => exact ⟨v, w, u, rfl, hk⟩
end Dk

/-! DkU: more methods of texts. -/
namespace Dk
open PySem PySem.Spec PySem.Builtin PySem.Builtin.Str PyProof.Rows L2
theorem lstripS_eq (z : List Nat) : ∀ s : List Nat, lstripS z s = s.drop (s.takeWhile z.contains).length
  | [] => rfl
  | c :: r => by
    unfold lstripS
    cases h : z.contains c with
    | true => rw [List.takeWhile_cons_of_pos h]; simp only [if_true, List.length_cons, List.drop_succ_cons]; exact lstripS_eq z r
    | false => rw [List.takeWhile_cons_of_neg (by rw [h]; exact Bool.false_ne_true)]; rfl
theorem rstripS_eq (z s : List Nat) : rstripS z s = s.take (s.length - (s.reverse.takeWhile z.contains).length) := by
  unfold rstripS
  rw [lstripS_eq, List.drop_reverse, List.reverse_reverse]
theorem cont_eq (z : List Nat) : (sV z).cps.contains = z.contains := by
  funext c
  show z.toArray.contains c = _
  simp
theorem sub_eq (s : List Nat) (lo hi : Nat) : strSub (sV s) lo hi = sV ((s.take hi).drop lo) := by
  show (⟨s.toArray.extract lo hi⟩ : Str) = ⟨((s.take hi).drop lo).toArray⟩
  congr 1
  rw [List.extract_toArray]
  congr 1
  rw [List.extract_eq_drop_take, List.drop_take]
theorem strip_sub (z s : List Nat) (l r : Bool) : Txt.stripBy (sV z).cps.contains l r (sV s) = sV ((if r then rstripS z (if l then lstripS z s else s) else (if l then lstripS z s else s))) := by
  rw [stripBy_eq, sub_eq, cont_eq]
  have e1 : stripLo z.contains l (sV s) = if l then (s.takeWhile z.contains).length else 0 := rfl
  have tw : (s.takeWhile z.contains).length ≤ s.length := List.Sublist.length_le (List.takeWhile_sublist _)
  have e2 : ∀ lo, stripHi z.contains r (sV s) lo = if r then s.length - ((s.drop lo).reverse.takeWhile z.contains).length else s.length := fun lo => by
    unfold stripHi
    rw [sV_len]; rfl
  rw [e1, e2]
  congr 1
  cases r with
  | false =>
    cases l with
    | false => simp
    | true => simp [lstripS_eq]
  | true =>
    cases l with
    | false => simp [rstripS_eq]
    | true =>
      simp only [if_true]
      rw [rstripS_eq, lstripS_eq]
      have tk : ∀ {p : Nat → Bool} {t : List Nat}, (t.takeWhile p).length ≤ t.length := fun {p t} => List.Sublist.length_le (List.takeWhile_sublist _)
      have k := tk (p := z.contains) (t := (s.drop (s.takeWhile z.contains).length).reverse)
      rw [List.length_reverse, List.length_drop] at k
      rw [List.drop_take, List.length_drop]
      congr 1
      omega
section
variable {X : L2.Cx} {G : Ge} {W : WX}
theorem strip_mem {z s : List Nat} {c : Nat} (h : c ∈ lstripS z s) : c ∈ s := by
  rw [lstripS_eq] at h
  exact List.mem_of_mem_drop h
theorem rstrip_mem {z s : List Nat} {c : Nat} (h : c ∈ rstripS z s) : c ∈ s := by
  rw [rstripS_eq] at h
  exact List.mem_of_mem_take h
theorem lstrip_le (z s : List Nat) : (lstripS z s).length ≤ s.length := by rw [lstripS_eq, List.length_drop]; omega
theorem rstrip_le (z s : List Nat) : (rstripS z s).length ≤ s.length := by rw [rstripS_eq, List.length_take]; omega
theorem mt_stripD : MtR X "str.strip" (rmD G W .strip) := MtR.by fun v us H Q ⟨F, d, ds, σ, r, rs, dom, h⟩ => by
  cases d <;> try exact (show False from h).elim
  rename_i s
  match ds, rs, h with
  | [.str z], rs, h =>
    cases rs with
    | @cons u us _ _ r2 t =>
      cases t
      obtain ⟨e1, s1⟩ := r.str
      obtain ⟨e2, s2⟩ := r2.str
      refine ⟨_, mt_stripChars, sV s, sV z, e1, by rw [e2], by rw [sV_len]; exact s1.len, ?_⟩
      show Q (.str (Txt.stripBy (sV z).cps.contains true true (sV s))) H
      rw [strip_sub]
      replace h : Post G F W σ H Q (.ok (.str (rstripS z (lstripS z s)))) := h
      exact h.ok (.str _ (s1.sub (Nat.le_trans (Nat.le_trans (rstrip_le _ _) (lstrip_le _ _)) s1.len) fun c hc => strip_mem (rstrip_mem hc)))
theorem mt_lstripD : MtR X "str.lstrip" (rmD G W .lstrip) := MtR.by fun v us H Q ⟨F, d, ds, σ, r, rs, dom, h⟩ => by
  cases d <;> try exact (show False from h).elim
  rename_i s
  match ds, rs, h with
  | [.str z], rs, h =>
    cases rs with
    | @cons u us _ _ r2 t =>
      cases t
      obtain ⟨e1, s1⟩ := r.str
      obtain ⟨e2, s2⟩ := r2.str
      refine ⟨_, mt_lstripChars, sV s, sV z, e1, by rw [e2], by rw [sV_len]; exact s1.len, ?_⟩
      show Q (.str (Txt.stripBy (sV z).cps.contains true false (sV s))) H
      rw [strip_sub]
      replace h : Post G F W σ H Q (.ok (.str (lstripS z s))) := h
      exact h.ok (.str _ (s1.sub (Nat.le_trans (lstrip_le _ _) s1.len) fun c hc => strip_mem hc))
theorem mt_rstripD : MtR X "str.rstrip" (rmD G W .rstrip) := MtR.by fun v us H Q ⟨F, d, ds, σ, r, rs, dom, h⟩ => by
  cases d <;> try exact (show False from h).elim
  rename_i s
  match ds, rs, h with
  | [.str z], rs, h =>
    cases rs with
    | @cons u us _ _ r2 t =>
      cases t
      obtain ⟨e1, s1⟩ := r.str
      obtain ⟨e2, s2⟩ := r2.str
      refine ⟨_, mt_rstripChars, sV s, sV z, e1, by rw [e2], by rw [sV_len]; exact s1.len, ?_⟩
      show Q (.str (Txt.stripBy (sV z).cps.contains false true (sV s))) H
      rw [strip_sub]
      replace h : Post G F W σ H Q (.ok (.str (rstripS z s))) := h
      exact h.ok (.str _ (s1.sub (Nat.le_trans (rstrip_le _ _) s1.len) fun c hc => rstrip_mem hc))
end
end Dk

/-! DkV: [a:b:2] of tuples. -/
namespace Dk
open PySem PySem.Spec PyProof.Rows L2
theorem adj2 (lo hi : Option Int) (n : Nat) : Builtin.Slice.sliceAdjust lo hi 2 (n : Int) = (((HT.sIx n 0 lo : Nat) : Int), ((HT.sIx n n hi : Nat) : Int)) := by
  have h1 : ¬ ((2 : Int) < 0) := by omega
  unfold Builtin.Slice.sliceAdjust
  simp only [h1, if_false]
  refine Prod.ext ?_ ?_
  · cases lo with
    | none => rfl
    | some v => exact HT.clip_eq v n 0
  · cases hi with
    | none => rfl
    | some v => exact HT.clip_eq v n n
theorem pl2 (i j : Nat) : Builtin.Slice.slicePlaces (i : Int) (j : Int) 2 = (j - i + 1) / 2 := by
  unfold Builtin.Slice.slicePlaces
  have h1 : (2 : Int) > 0 := by omega
  simp only [h1, if_true]
  split <;> omega
theorem fm_congr {α β : Type} {f g : α → Option β} : ∀ {l : List α}, (∀ a ∈ l, f a = g a) → l.filterMap f = l.filterMap g
  | [], _ => rfl
  | a :: l, h => by
    rw [List.filterMap_cons, List.filterMap_cons, h a (List.mem_cons_self ..), fm_congr fun b hb => h b (List.mem_cons_of_mem _ hb)]
theorem half_pick {α : Type} : ∀ ys : List α, (List.range ((ys.length + 1) / 2)).filterMap (fun m => ys[2 * m]?) = half ys
  | [] => by simp [half]
  | [x] => by simp [half, List.range_succ]
  | x :: y :: r => by
    have e : ((x :: y :: r).length + 1) / 2 = (r.length + 1) / 2 + 1 := by simp only [List.length_cons]; omega
    rw [e, List.range_succ_eq_map, List.filterMap_cons]
    show x :: List.filterMap _ (List.map Nat.succ _) = x :: half r
    rw [List.filterMap_map]
    congr 1
    rw [← half_pick r]
    refine congrArg (fun f => List.filterMap f (List.range ((r.length + 1) / 2))) (funext fun m => ?_)
    show (x :: y :: r)[2 * (m + 1)]? = _
    have e2 : 2 * (m + 1) = 2 * m + 1 + 1 := by omega
    rw [e2]; rfl
theorem pick2 (xs : Array Value) (i j : Nat) (hj : j ≤ xs.size) : ((List.range ((j - i + 1) / 2)).filterMap fun (m : Nat) => xs[((i : Int) + (m : Int) * 2).toNat]?) = half ((xs.toList.drop i).take (j - i)) := by
  rw [← half_pick]
  have l : ((xs.toList.drop i).take (j - i)).length = j - i := by
    rw [List.length_take, List.length_drop, Array.length_toList]; omega
  rw [l]
  refine fm_congr fun m hm => ?_
  have hm := List.mem_range.mp hm
  have e : ((i : Int) + (m : Int) * 2).toNat = i + 2 * m := by omega
  rw [e, List.getElem?_take, if_pos (by omega), List.getElem?_drop, Array.getElem?_toList]
section
variable {prog : Program} {w : World} {A : Around} {E : Value → Shared → Prop} {s : Shared}
theorem sliceApplied_two {sl : Addr} {vl vu vs : Value} {lo hi : Option Int} {n : Nat} {Q : Int × Int × Nat → Shared → Prop} (hs : s.heap.IsSliceOf sl vl vu vs) (pl : IsPart vl lo) (pu : IsPart vu hi) (ps : IsPart vs (some 2))
    (h : Q (((HT.sIx n 0 lo : Nat) : Int), 2, (HT.sIx n n hi - HT.sIx n 0 lo + 1) / 2) s) : wpAny (model prog w) A (Builtin.Slice.sliceApplied (.ref sl) (pure (n : Int))) Q E s := by
  obtain ⟨os, hos, hcs, hds⟩ := id hs
  unfold Builtin.Slice.sliceApplied Builtin.Slice.sliceFields
  refine wpAny_bind (wpAny_bind (wpAny_field hos hds (x := vl) rfl (wpAny_bind (wpAny_field hos hds (x := vu) rfl (wpAny_bind (wpAny_field hos hds (x := vs) rfl (wpAny_pure ?_)))))))
  refine wpAny_bind (HT.slicePart_ ps ?_)
  show wpAny _ _ (if ((2 : Int) == 0) = true then _ else _) _ _ s
  rw [if_neg (by decide)]
  refine wpAny_bind (HT.slicePart_ pl (wpAny_bind (HT.slicePart_ pu (wpAny_bind (wpAny_pure ?_)))))
  show wpAny _ _ (match Builtin.Slice.sliceAdjust lo hi 2 (n : Int) with | (lo, hi) => pure (lo, (2 : Int), Builtin.Slice.slicePlaces lo hi 2)) _ _ s
  rw [adj2 lo hi n]
  show wpAny _ _ (pure (((HT.sIx n 0 lo : Nat) : Int), (2 : Int), Builtin.Slice.slicePlaces ((HT.sIx n 0 lo : Nat) : Int) ((HT.sIx n n hi : Nat) : Int) 2)) _ _ s
  rw [pl2]
  exact wpAny_pure h
theorem half_le {α : Type} : ∀ ys : List α, (half ys).length ≤ ys.length
  | [] => Nat.le_refl _
  | [_] => Nat.le_refl _
  | _ :: _ :: r => by
    have := half_le r
    show (half r).length + 1 ≤ r.length + 1 + 1
    omega
theorem getItem_tuple_two {t sl : Addr} {items : Array Value} {vl vu vs : Value} {lo hi : Option Int} {Q : Value → Shared → Prop} (ht : IsTup s.heap t items) (hs : s.heap.IsSliceOf sl vl vu vs) (pl : IsPart vl lo) (pu : IsPart vu hi) (ps : IsPart vs (some 2))
    (h : Q (.ref s.heap.objs.size) { s with heap := s.heap.push { cls := .type "tuple", data := .seq (half ((items.toList.drop (HT.sIx items.size 0 lo)).take (HT.sIx items.size items.size hi - HT.sIx items.size 0 lo))).toArray } })
    (hsz : items.size ≤ sizeLine) : wpAny (model prog w) A (getItem (.ref t) (.ref sl)) Q E s := by
  have htake : sizeOk (.seq (half ((items.toList.drop (HT.sIx items.size 0 lo)).take (HT.sIx items.size items.size hi - HT.sIx items.size 0 lo))).toArray) := by
    show (half ((items.toList.drop (HT.sIx items.size 0 lo)).take (HT.sIx items.size items.size hi - HT.sIx items.size 0 lo))).toArray.size ≤ sizeLine
    rw [List.size_toArray]
    refine Nat.le_trans (half_le _) ?_
    rw [List.length_take, List.length_drop, Array.length_toList]
    omega
  obtain ⟨os, hos, hcs, hds⟩ := id hs
  have hTs : s.TypeIs (.ref sl) "slice" := ⟨os, hos, hcs⟩
  unfold getItem
  try with_reducible refine wpAny_holding ?_
  first | refine wpAny_bind (wpAny_pure ?_) | skip
  refine wpAny_bind (wpAny_sequenceKey ht.typeIs (by decide) ?_)
  refine wpAny_bind (wpAny_callSpecial?_slot (name := Str.ofString "__getitem__") ht.typeIs PyProof.Rows.slot_tuple_getitem
    (wpAny_call_entry PyProof.Rows.slot_tuple_getitem ht.typeIs entry_tuple_getitem ?_ (args_tuple_getitem _ _)))
  show wpAny _ _ (Builtin.Tuple.tupleItemsOf (.ref t) >>= _) _ _ s
  refine wpAny_bind (tupleItemsOf_ ht ?_)
  refine wpAny_bind (wpAny_typeOf hTs ?_)
  rw [if_pos (by decide)]
  refine wpAny_bind (sliceApplied_two hs pl pu ps ?_)
  have hno : ¬ ((((HT.sIx items.size 0 lo : Nat) : Int) == 0 && (2 : Int) == 1 && (HT.sIx items.size items.size hi - HT.sIx items.size 0 lo + 1) / 2 == items.size) = true) := by
    intro q
    rw [Bool.and_eq_true, Bool.and_eq_true] at q
    exact absurd (eq_of_beq q.1.2) (by decide)
  show wpAny _ _ (if (((HT.sIx items.size 0 lo : Nat) : Int) == 0 && (2 : Int) == 1 && (HT.sIx items.size items.size hi - HT.sIx items.size 0 lo + 1) / 2 == items.size) = true then _ else _) _ _ s
  rw [if_neg hno, pick2 _ _ _ (HT.sIx_le _ _ (Nat.le_refl _) hi)]
  first
    | exact wpAny_bind (m := Builtin.Tuple.tupleExact _) (wpAny_newObj_type (wpAny_pure ⟨_, rfl, wpAny_pure h⟩) htake)
    | exact wpAny_bind (m := Builtin.Tuple.tupleExact _) (wpAny_newObj_type (wpAny_bind (wpAny_pure (wpAny_pure ⟨_, rfl, wpAny_pure h⟩))) htake)
    | exact wpAny_bind (wpAny_bind (m := Builtin.Tuple.tupleExact _) (wpAny_newObj_type (wpAny_pure (wpAny_pure ⟨_, rfl, wpAny_pure h⟩)) htake))
    | exact wpAny_bind (wpAny_bind (m := Builtin.Tuple.tupleExact _) (wpAny_newObj_type (wpAny_pure ⟨_, rfl, wpAny_pure h⟩) htake))
end
theorem Vals.half : ∀ {vs : List V} {us : List Value}, Vals vs us → Vals (half vs) (half us)
  | _, _, .nil => .nil
  | _, _, .cons h .nil => .cons h .nil
  | _, _, .cons h (.cons _ t) => .cons h (Vals.half t)
theorem Vals.dropD : ∀ (n : Nat) {vs : List V} {us : List Value}, Vals vs us → Vals (vs.drop n) (us.drop n)
  | 0, _, _, h => h
  | _ + 1, _, _, .nil => .nil
  | n + 1, _, _, .cons h t => Vals.dropD n t
theorem Vals.takeD : ∀ (n : Nat) {vs : List V} {us : List Value}, Vals vs us → Vals (vs.take n) (us.take n)
  | 0, _, _, _ => .nil
  | _ + 1, _, _, .nil => .nil
  | n + 1, _, _, .cons h t => .cons h (Vals.takeD n t)
section
variable {X : L2.Cx} {G : Ge} {W : WX} {a : Expr} {ma : En → R} {lo hi : Option Expr} {ml mh : Ex} {fl fh : En → R} {k : Nat} {p1 p2 pos : Pos}
theorem pe_sl2D (hK : X.K = G.K) (ha : PE X a (tE G W ma)) (hl : PO X lo (tO G W ml fl)) (hh : PO X hi (tO G W mh fh)) :
    PE X (.Subscript a (.Slice lo hi (some (.Constant (.int 2) k p1)) p2) pos) (tE G W fun ρ => (ma ρ).bnd fun x => bndD ml (fl ρ) fun l => bndD mh (fh ρ) fun h => slT (fun xs => half (Dk.cut xs l h)) x) := by
  refine ⟨fun pins s σ H Q I h => ?_⟩
  have cv : tE G W ma σ H (fun x H1 => tO G W ml fl σ H1 fun l H2 => tO G W mh fh σ H2 fun u H3 => ∃ F d σ', RepW G F H3 x d ∧ (∀ a, F a → ∃ o, H3 a = some o) ∧ Post G F W σ' H3 Q (slT (fun xs => half (Dk.cut xs l u)) d)) := by
    obtain ⟨F, ρ, E, p⟩ := h
    try dsimp only at p
    refine ⟨F, ρ, E, Post.w p _ fun d v H' e q p' => ⟨F, ρ, E.up e, PostO.of p' fun l H2 e2 p2 => ⟨F, ρ, E.up (e.trans e2), PostO.of p2 fun h H3 e3 p3 => ?_⟩⟩⟩
    exact ⟨F, d, σ, q.up (e2.trans e3), (E.up ((e.trans e2).trans e3)).dom, p3⟩
  refine Subscript_ (thn (ha.run pins s σ H _ I cv) fun v s1 ⟨x, H1, I1, r1, q1⟩ => ?_)
  have hst : PO X (some (.Constant (.int 2) k p1)) (tPart (tC (.int 2))) := po_some pe_int
  refine wpAny_Slice (thn (hl.run pins s1 σ H1 _ I1 q1) fun vl s2 ⟨l, H2, I2, pl, q2⟩ => ?_)
  refine thn (hh.run pins s2 σ H2 _ I2 q2) fun vu s3 ⟨u, H3, I3, pu, q3⟩ => ?_
  refine thn (hst.run pins s3 σ H3 (fun o H4 => o = some 2 ∧ H4 = H3) I3 ⟨2, rfl, rfl, rfl⟩) fun vs s4 ⟨o, H4, I4, ps, eo, e4⟩ => ?_
  subst eo e4
  have I5 : Inv X pins σ H4 { s4 with heap := s4.heap.push { cls := .type "slice", data := .fields #[vl, vu, vs] } } := I4.kept (t' := s4.toks) fun b ob q => Heap.get?_push_of_some _ q
  obtain ⟨F, d, σ', rx, dom, q⟩ := q3
  unfold slT at q
  split at q
  · obtain ⟨a1, v1, e1, s1', l1, q1', w1⟩ := rx.tup
    subst e1
    cases (show v = .ref a1 from r1)
    obtain ⟨its, r, ht, hz⟩ := I5.tuple (by rw [hK]; exact s1')
    have hlen := r.length
    show wpAny (model X.prog X.w) X.A (subscriptTail a (.Slice lo hi (some (.Constant (.int 2) k p1)) p2) (.ref a1) (.ref s4.heap.objs.size)) (EP X pins σ Q) X.xe _
    refine tail_any (ops := [.ref a1, .ref s4.heap.objs.size]) (show _ from ht.typeIs) (PyProof.Rows.slot_tuple_getitem.lookup) ?_ (by with_unfolding_all rfl)
    refine getItem_tuple_two ht (Heap.IsSliceOf.new _ vl vu vs) pl pu ps ?_ (by rw [List.size_toArray]; omega)
    have ec : half ((v1.drop (HT.sIx v1.length 0 l)).take (HT.sIx v1.length v1.length u - HT.sIx v1.length 0 l)) = half (Dk.cut v1 l u) := by
      unfold Dk.cut
      rw [sIx_eq, sIx_eq]
    have vv : Vals (half (Dk.cut v1 l u)) (half (((its.toArray.toList.drop (HT.sIx its.toArray.size 0 l)).take (HT.sIx its.toArray.size its.toArray.size u - HT.sIx its.toArray.size 0 l)))) := by
      rw [← ec]
      have e : its.toArray.size = v1.length := by rw [List.size_toArray]; omega
      rw [e]
      exact Vals.half (Vals.takeD _ (Vals.dropD _ r))
    have hl2 : (half (Dk.cut v1 l u)).length ≤ v1.length := Nat.le_trans (half_le _) (Dk.cut_len _ _ _)
    refine ⟨.ref _, _, I5.laid (t' := s4.toks) (o := .tup (half (Dk.cut v1 l u))) (fun b ob q => Heap.get?_push_of_some _ q) (Nat.le_refl _) ?_, rfl, q _ _ (same_upd (I5.hok.fresh (Nat.le_refl _))) (new_tup dom (I5.hok.fresh (Nat.le_refl _)) (Nat.le_trans hl2 l1) (q1'.cut l u).half)⟩
    exact ⟨Nat.le_trans hl2 hz, _, vv, IsTup.new _ _⟩
  · exact q.elim
end
end Dk

/-! DkX: count, index of a sign in a text. -/
namespace Dk
open PySem PySem.Spec PySem.Builtin PySem.Builtin.Str PyProof.Rows L2
theorem cnt_is (c : Nat) : ∀ s : List Nat, cnt c s = ((s.count c : Nat) : Int)
  | [] => rfl
  | n :: r => by
    rw [cnt_cons, cnt_is c r, List.count_cons]
    by_cases h : n = c
    · subst h; simp; omega
    · have : (n == c) = false := by simpa using h
      simp [h, this]
theorem count_one (s : List Nat) (c : Nat) : Txt.count (sV s) (sV [c]) = ((s.count c : Nat) : Int) := by
  rw [← cnt_is]
  exact count_is (sV s) c
theorem at_one (s : List Nat) (c i : Nat) : StrLaws.At (sV s) (sV [c]) (sV s).length i ↔ s[i]? = some c := by
  unfold StrLaws.At
  rw [sV_len, sV_len]
  have e : subAt (sV s) (sV [c]) i = (((s.take (i + 1)).drop i) == [c]) := by
    unfold subAt
    rw [sV_len]
    show ((s.toArray.extract i (i + 1)) == [c].toArray) = _
    rw [List.extract_toArray, List.extract_eq_drop_take]
    have : List.take (i + 1 - i) (List.drop i s) = List.drop i (List.take (i + 1) s) := by rw [List.drop_take]
    rw [this]
    simp
  rw [e]
  constructor
  · rintro ⟨h1, h2⟩
    have h2 := eq_of_beq h2
    have hi : i < s.length := by simp at h1; omega
    have : ((s.take (i + 1)).drop i)[0]? = some c := by rw [h2]; rfl
    rw [List.getElem?_drop, List.getElem?_take, if_pos (by omega)] at this
    simpa using this
  · intro h
    have hi : i < s.length := by
      rcases Nat.lt_or_ge i s.length with q | q
      · exact q
      · rw [List.getElem?_eq_none q] at h; cases h
    refine ⟨by simp; omega, ?_⟩
    have : (s.take (i + 1)).drop i = [c] := by
      rw [List.drop_take, show i + 1 - i = 1 from by omega]
      rw [List.take_one, List.head?_drop, h]; rfl
    rw [this]; simp
theorem occ_one (s : List Nat) (c : Nat) (h : s.contains c = true) : ∃ rest, occurrences (sV s) (sV [c]) 0 (sV s).length 1 = s.idxOf c :: rest := by
  have hm : c ∈ s := by simpa using h
  have hlt := List.idxOf_lt_length_of_mem hm
  have hat : s[s.idxOf c]? = some c := by
    rw [List.getElem?_eq_getElem hlt]
    simp
  rcases StrLaws.occ_head (sV s) (sV [c]) 1 (Nat.le_refl 1) with ⟨_, hn⟩ | ⟨i, r, h0, hi, hn⟩
  · exact absurd ((at_one s c _).mpr hat) (hn _)
  · refine ⟨r, ?_⟩
    rw [h0]
    congr 1
    have hi' := (at_one s c i).mp hi
    rcases Nat.lt_trichotomy i (s.idxOf c) with q | q | q
    · exfalso
      have hil : i < s.length := by omega
      rw [List.getElem?_eq_getElem hil] at hi'
      have := List.not_of_lt_findIdx (p := (· == c)) (xs := s) (i := i) q
      simp at this hi'
      exact this hi'
    · exact q
    · exact absurd ((at_one s c _).mpr hat) (hn _ q)
section
variable {X : L2.Cx} {G : Ge} {W : WX}
theorem mt_countD : MtR X "str.count" (rmD G W .count) := MtR.by fun v us H Q ⟨F, d, ds, σ, r, rs, dom, h⟩ => by
  cases d with
  | str s =>
    match ds, rs, h with
    | [.str [c]], rs, h =>
      cases rs with
      | @cons u us _ _ r2 t =>
        cases t
        obtain ⟨e1, s1⟩ := r.str
        obtain ⟨e2, s2⟩ := r2.str
        refine ⟨_, mt_count, sV s, sV [c], e1, by rw [e2], ?_⟩
        rw [count_one]
        replace h : Post G F W σ H Q (.ok (.int (s.count c))) := h
        exact h.ok (.int _)
  | _ => exact (show False from h).elim
theorem mt_index1 : MtR X "str.index" (fun x xs H Q => ∃ (a b : Str) (i : Nat) (rest : List Nat), x = .str a ∧ xs = [.str b] ∧ occurrences a b 0 a.length 1 = i :: rest ∧ Q (.int i) H) := by
  intro pins s σ H x xs v us Q I rx rs h
  obtain ⟨a, b, i, rest, rfl, rfl, ho, h⟩ := h
  obtain ⟨t, rfl⟩ := rx
  cases rs with
  | cons r1 rs =>
    cases rs
    obtain ⟨u, rfl⟩ := r1
    exact PySem.SC.index ho ⟨.int i, H, I.tok _, ⟨_, rfl⟩, h⟩
theorem mt_indexD : MtR X "str.index" (rmD G W .index) := MtR.by fun v us H Q ⟨F, d, ds, σ, r, rs, dom, h⟩ => by
  cases d with
  | str s =>
    match ds, rs, h with
    | [.str [c]], rs, h =>
      cases rs with
      | @cons u us _ _ r2 t =>
        cases t
        obtain ⟨e1, s1⟩ := r.str
        obtain ⟨e2, s2⟩ := r2.str
        replace h : Post G F W σ H Q (if s.contains c then .ok (.int (s.idxOf c)) else .bad) := h
        by_cases hc : s.contains c = true
        · rw [if_pos hc] at h
          obtain ⟨rest, ho⟩ := occ_one s c hc
          exact ⟨_, mt_index1, sV s, sV [c], s.idxOf c, rest, e1, by rw [e2], ho, h.ok (.int _)⟩
        · rw [if_neg hc] at h; exact h.elim
  | _ => exact (show False from h).elim
end
end Dk

/-! DkY: index and count of lists and tuples. -/
namespace Dk
open PySem PySem.Spec PyProof.Rows L2
section
variable {X : L2.Cx} {G : Ge} {W : WX}
/-- t.index(x): the first place of an equal one -/
def rIdxT (K : PySem.W.Frag) : V → List V → Hp → VK → Prop := fun x xs H Q => ∃ (a : Addr) (y : V) (d : PyData) (ds : List PyData) (j : Nat), x = V.ref a ∧ xs = [y] ∧ Dp K H (V.ref a) (.tuple ds) ∧ Dp K H y d ∧
  SeqAt.shaped (.tuple ds) = true ∧ SeqAt.shaped d = true ∧ (ds.findIdx? fun z => PyData.eqv z d) = some j ∧ Q (.int (j : Nat)) H
def rIdxL (K : PySem.W.Frag) : V → List V → Hp → VK → Prop := fun x xs H Q => ∃ (a : Addr) (y : V) (d : PyData) (ds : List PyData) (j : Nat), x = V.ref a ∧ xs = [y] ∧ Dp K H (V.ref a) (.list ds) ∧ Dp K H y d ∧
  SeqAt.shaped (.list ds) = true ∧ SeqAt.shaped d = true ∧ (ds.findIdx? fun z => PyData.eqv z d) = some j ∧ Q (.int (j : Nat)) H
def rCntL (K : PySem.W.Frag) : V → List V → Hp → VK → Prop := fun x xs H Q => ∃ (a : Addr) (y : V) (d : PyData) (ds : List PyData), x = V.ref a ∧ xs = [y] ∧ Dp K H (V.ref a) (.list ds) ∧ Dp K H y d ∧
  SeqAt.shaped (.list ds) = true ∧ SeqAt.shaped d = true ∧ Q (.int ((ds.countP fun z => PyData.eqv z d : Nat) : Int)) H
/-- the answers of ==, place by place -/
theorem eqs_at {A : Around} {s : Shared} {its : List Value} {ds : List PyData} {as bs : List Addr} {u : Value} {d : PyData} (h4 : ReadsAll s.heap its ds as) (r1 : Reads s.heap u d bs) (hxs : PyData.canLayAll0 ds = true) (hd : d.canLay0 = true) (hroom : A.units + 1 + min (PyData.depthAll ds) d.depth < cLine) :
    (∀ y, y ∈ its → SeqAt.EqAt A.in1 s y u (PyData.eqv (SeqAt.readOf s.heap y) d)) ∧ its.map (SeqAt.readOf s.heap) = ds :=
  ⟨fun y hy => SeqAt.items_eqAt (vs := its.toArray) (show ReadsAll s.heap its.toArray.toList ds as from h4) r1 hxs hd hroom y (by simpa using hy), SeqAt.readsAll_map ds its as hxs h4⟩
theorem idx_bool {f : PyData → Bool} : ∀ (ds : List PyData) (j : Nat), ds.findIdx? f = some j → (true ∈ ds.map f) ∧ (ds.map f).idxOf true = j
  | [], j, h => by simp at h
  | d :: ds, j, h => by
    rw [List.findIdx?_cons] at h
    cases e : f d with
    | true =>
      rw [e] at h
      cases h
      exact ⟨by simp [e], by simp [List.idxOf_cons, e]⟩
    | false =>
      rw [e] at h
      obtain ⟨i, hi, rfl⟩ := Option.map_eq_some_iff.mp h
      obtain ⟨h1, h2⟩ := idx_bool ds i hi
      exact ⟨by simp only [List.map_cons, e]; exact List.mem_cons_of_mem _ h1, by simp [List.idxOf_cons, e, h2]⟩
theorem mt_idxT (hu : X.A.units + 65 < cLine) : MtR X "tuple.index" (rIdxT X.K) := by
  intro pins s σ H x xs v us Q I rx rxs h
  obtain ⟨a, y, d, ds, j, rfl, rfl, hl, hy, sl, sd, hj, q⟩ := h
  cases rx
  cases rxs with
  | cons ry rt =>
    rename_i uy ut
    cases rt
    obtain ⟨bs, r1⟩ := Dp.reads I d y uy hy ry
    cases hl with
    | tup hs ha =>
      obtain ⟨its, rv, pl, hlen⟩ := I.tuple hs
      obtain ⟨as, h4⟩ := Dp.readsAll I ds _ its ha rv
      obtain ⟨k1, k2⟩ := eqs_at (A := X.A) h4 r1 (SeqAt.canLay_of_shaped sl) (SeqAt.canLay_of_shaped sd) (room_in_shaped sd hu)
      obtain ⟨m1, m2⟩ := idx_bool ds j hj
      have hn : its.length = ds.length := SeqAt.ReadsAll.length ds its as h4
      refine SeqAt.call_tuple_index (vs := its) (ks := ds.map fun z => PyData.eqv z d) (k := true) pl ⟨by rw [List.length_map]; exact hn, fun i h1 h2 => ?_⟩ m1 ?_
      · have e1 : (ds.map fun z => PyData.eqv z d)[i] = PyData.eqv (SeqAt.readOf s.heap its[i]) d := by
          have := congrArg (fun l => l[i]?) k2
          simp only [List.getElem?_map, List.getElem?_eq_getElem h1] at this
          rw [List.length_map] at h2
          rw [List.getElem?_eq_getElem h2] at this
          rw [List.getElem_map]
          have e := Option.some.inj this
          rw [← e]
        rw [e1]
        have z := k1 its[i] (List.getElem_mem h1)
        cases q2 : PyData.eqv (SeqAt.readOf s.heap its[i]) d with
        | true => rw [q2] at z; exact z
        | false => rw [q2] at z; exact z
      · rw [m2]
        exact ⟨.int (j : Nat), H, I.tok _, ⟨_, rfl⟩, q⟩
theorem mt_idxL (hu : X.A.units + 65 < cLine) : MtR X "list.index" (rIdxL X.K) := by
  intro pins s σ H x xs v us Q I rx rxs h
  obtain ⟨a, y, d, ds, j, rfl, rfl, hl, hy, sl, sd, hj, q⟩ := h
  cases rx
  cases rxs with
  | cons ry rt =>
    rename_i uy ut
    cases rt
    obtain ⟨bs, r1⟩ := Dp.reads I d y uy hy ry
    cases hl with
    | lst hs ha =>
      obtain ⟨its, rv, pl, hlen⟩ := I.list hs
      obtain ⟨as, h4⟩ := Dp.readsAll I ds _ its ha rv
      obtain ⟨k1, k2⟩ := eqs_at (A := X.A) h4 r1 (SeqAt.canLay_of_shaped sl) (SeqAt.canLay_of_shaped sd) (room_in_shaped sd hu)
      obtain ⟨m1, m2⟩ := idx_bool ds j hj
      have hn : its.length = ds.length := SeqAt.ReadsAll.length ds its as h4
      refine SeqAt.call_list_index (vs := its) (ks := ds.map fun z => PyData.eqv z d) (k := true) pl.isList ⟨by rw [List.length_map]; exact hn, fun i h1 h2 => ?_⟩ (by rw [List.length_map, ← hn, ← rv.length]; exact hlen) m1 ?_
      · have e1 : (ds.map fun z => PyData.eqv z d)[i] = PyData.eqv (SeqAt.readOf s.heap its[i]) d := by
          have := congrArg (fun l => l[i]?) k2
          simp only [List.getElem?_map, List.getElem?_eq_getElem h1] at this
          rw [List.length_map] at h2
          rw [List.getElem?_eq_getElem h2] at this
          rw [List.getElem_map]
          have e := Option.some.inj this
          rw [← e]
        rw [e1]
        have z := k1 its[i] (List.getElem_mem h1)
        cases q2 : PyData.eqv (SeqAt.readOf s.heap its[i]) d with
        | true => rw [q2] at z; exact z
        | false => rw [q2] at z; exact z
      · rw [m2]
        exact ⟨.int (j : Nat), H, I.tok _, ⟨_, rfl⟩, q⟩
theorem mt_cntL (hu : X.A.units + 65 < cLine) : MtR X "list.count" (rCntL X.K) := by
  intro pins s σ H x xs v us Q I rx rxs h
  obtain ⟨a, y, d, ds, rfl, rfl, hl, hy, sl, sd, q⟩ := h
  cases rx
  cases rxs with
  | cons ry rt =>
    rename_i uy ut
    cases rt
    obtain ⟨bs, r1⟩ := Dp.reads I d y uy hy ry
    cases hl with
    | lst hs ha =>
      obtain ⟨its, rv, ⟨⟨cls, dd, data, sls⟩, n, ho, hc, hdn, hdt⟩, hlen⟩ := I.list hs
      simp only at hc hdt
      subst hc hdt
      obtain ⟨as, h4⟩ := Dp.readsAll I ds _ its ha rv
      obtain ⟨k1, k2⟩ := eqs_at (A := X.A) h4 r1 (SeqAt.canLay_of_shaped sl) (SeqAt.canLay_of_shaped sd) (room_in_shaped sd hu)
      refine call_meets PySem.F.slot_list_count ⟨_, ho, rfl⟩ PySem.F.entry_list_count (PySem.F.args_list_count_2 _ _) (SeqAt.list_countAt a its.toArray n dd sls uy (fun u => PyData.eqv (SeqAt.readOf s.heap u) d)) ⟨ho, fun y hy => k1 y (by simpa using hy), ?_⟩
      refine ⟨.int ((its.toArray.toList.countP fun u => PyData.eqv (SeqAt.readOf s.heap u) d : Nat) : Int), H, I.tok _, ⟨_, rfl⟩, ?_⟩
      have e : (its.countP fun u => PyData.eqv (SeqAt.readOf s.heap u) d) = ds.countP fun z => PyData.eqv z d := by
        rw [← k2, List.countP_map]; rfl
      show Q (.int ((its.toArray.toList.countP _ : Nat) : Int)) H
      rw [show its.toArray.toList = its from by simp, e]
      exact q
/-! ### over the evaluator -/
theorem find_toP {d : D} (k : dat d = true) : ∀ (xs : List D), datL 59 xs = true → ((toPs xs).findIdx? fun z => PyData.eqv z (toP d)) = xs.findIdx? fun z => eqD z d
  | [], _ => rfl
  | x :: xs, h => by
    have h' : datN 59 x = true ∧ datL 59 xs = true := by simpa [datL] using h
    show (toP x :: toPs xs).findIdx? _ = _
    rw [List.findIdx?_cons, List.findIdx?_cons, eqv_toP x d 59 60 h'.1 k, find_toP k xs h'.2]
theorem count_toP {d : D} (k : dat d = true) : ∀ (xs : List D), datL 59 xs = true → ((toPs xs).countP fun z => PyData.eqv z (toP d)) = xs.countP fun z => eqD z d
  | [], _ => rfl
  | x :: xs, h => by
    have h' : datN 59 x = true ∧ datL 59 xs = true := by simpa [datL] using h
    show (toP x :: toPs xs).countP _ = _
    rw [List.countP_cons, List.countP_cons, eqv_toP x d 59 60 h'.1 k, count_toP k xs h'.2]
theorem idxD_ok {F : Addr → Prop} {σ : VS} {H : Hp} {Q : VK} {d : D} {xs : List D} (h : Post G F W σ H Q (idxD d xs)) : ∃ j, (xs.findIdx? fun z => eqD z d) = some j ∧ Q (.int (j : Nat)) H := by
  unfold idxD at h
  split at h
  · rename_i j e
    exact ⟨j, e, h.ok (.int _)⟩
  · exact h.elim
theorem mt_idxTD (hu : X.A.units + 65 < cLine) (hK : X.K = G.K) : MtR X "tuple.index" (rmD G W .indexT) := MtR.by fun v us H Q ⟨F, d, ds, σ, r, rs, dom, h⟩ => by
  cases d with
  | tup xs =>
    match ds, rs, h with
    | [e], rs, h =>
      cases rs with
      | @cons u us _ _ r2 t =>
        cases t
        obtain ⟨⟨k1, k2⟩, h⟩ := if_ok (P := Post G F W σ H Q) h (fun z => z)
        obtain ⟨p1, s1⟩ := r2.full.data k1
        obtain ⟨p2, s2⟩ := r.full.data (dat_tup k2)
        obtain ⟨a, vs, ev, _⟩ := r.tup
        subst ev
        obtain ⟨j, hj, q⟩ := idxD_ok h
        exact ⟨_, mt_idxT hu, a, u, _, toPs xs, j, rfl, rfl, by rw [hK]; exact p2, by rw [hK]; exact p1, s2, s1, by rw [find_toP k1 xs k2]; exact hj, q⟩
  | _ => exact (show False from h).elim
theorem mt_idxLD (hu : X.A.units + 65 < cLine) (hK : X.K = G.K) : MtR X "list.index" (rmD G W .indexL) := MtR.by fun v us H Q ⟨F, d, ds, σ, r, rs, dom, h⟩ => by
  cases d with
  | lst xs =>
    match ds, rs, h with
    | [e], rs, h =>
      cases rs with
      | @cons u us _ _ r2 t =>
        cases t
        obtain ⟨⟨k1, k2⟩, h⟩ := if_ok (P := Post G F W σ H Q) h (fun z => z)
        obtain ⟨p1, s1⟩ := r2.full.data k1
        obtain ⟨p2, s2⟩ := r.full.data (dat_lst k2)
        obtain ⟨a, vs, ev, _⟩ := r.lst
        subst ev
        obtain ⟨j, hj, q⟩ := idxD_ok h
        exact ⟨_, mt_idxL hu, a, u, _, toPs xs, j, rfl, rfl, by rw [hK]; exact p2, by rw [hK]; exact p1, s2, s1, by rw [find_toP k1 xs k2]; exact hj, q⟩
  | _ => exact (show False from h).elim
theorem mt_cntLD (hu : X.A.units + 65 < cLine) (hK : X.K = G.K) : MtR X "list.count" (rmD G W .countL) := MtR.by fun v us H Q ⟨F, d, ds, σ, r, rs, dom, h⟩ => by
  cases d with
  | lst xs =>
    match ds, rs, h with
    | [e], rs, h =>
      cases rs with
      | @cons u us _ _ r2 t =>
        cases t
        obtain ⟨⟨k1, k2⟩, h⟩ := if_ok (P := Post G F W σ H Q) h (fun z => z)
        obtain ⟨p1, s1⟩ := r2.full.data k1
        obtain ⟨p2, s2⟩ := r.full.data (dat_lst k2)
        obtain ⟨a, vs, ev, _⟩ := r.lst
        subst ev
        exact ⟨_, mt_cntL hu, a, u, _, toPs xs, rfl, rfl, by rw [hK]; exact p2, by rw [hK]; exact p1, s2, s1, by rw [count_toP k1 xs k2]; exact h.ok (.int _)⟩
  | _ => exact (show False from h).elim
/-! ### whose method it is -/
def tyLst (K : PySem.W.Frag) (x : V) (H : Hp) : Prop := ∃ p xs, x = .ref p ∧ SqL K H p xs
theorem ty_lst : TyOk X "list" (tyLst X.K) := by
  intro pins σ H s x v I r ⟨p, xs, e, hq⟩
  subst e
  cases r
  obtain ⟨its, _, pl, _⟩ := I.list hq
  refine ⟨pl.isList.typeIs, fun a e => ?_⟩
  cases e
  obtain ⟨o, n, e, c, hd, _⟩ := pl
  exact ⟨o, e, hd⟩
variable {a b : Expr} {ma mb : En → R} {apos pos : Pos} {name : Str} {id : String} {m : Me}
theorem pe_meLD (hK : X.K = G.K) (hm1 : ∀ d, meK m d = isLstD d) (slot : Slot "list" name id) (ty : typeOf (.builtin id) = pure (.type "method_descriptor")) (rule : MtR X id (rmD G W m)) (ha : PE X a (tE G W ma)) (hb : PE X b (tE G W mb)) (hs : starEach [b] X.env = [(false, eval b X.env)]) (hbase : attributeBase a name X.env (eval a X.env) = eval a X.env) (hline : (apos.endLine == pos.line) = true)
    (hfew : ((backTo pos (starEach [b] X.env)).all (fun x => !x.1) && (backToKw pos (keywordEach [] X.env)).all (fun x => x.1.isSome) && decide ([b].length + ([] : List Keyword).length + (if ([] : List Keyword).isEmpty then 0 else 1) < 30)) = true) :
    PE X (.Call (.Attribute a name apos) [b] [] pos) (tE G W fun ρ => (ma ρ).bnd fun x => meR m x (consW (mb ρ) (.ok []))) := PE.imp (pe_mG (ty := tyLst X.K) ty_lst PySem.F.plainAttrs_list slot ty rule ha (pa_cons hb pa_nil (by rw [hs]; rfl)) hbase hfew hline (by rw [hs]; rfl) rfl) fun σ H Q h => by
  obtain ⟨F, ρ, E, p⟩ := h
  refine ⟨F, ρ, E, Post.w p _ fun d v H' e q p' => ?_⟩
  unfold meR at p'
  obtain ⟨z, p'⟩ := if_ok (P := Post G F W σ H' Q) p' (fun z => z)
  rw [hm1] at z
  obtain ⟨xs, rfl⟩ : ∃ xs, d = .lst xs := by
    cases d <;> first | exact ⟨_, rfl⟩ | cases z
  obtain ⟨p1, vs, e1, e2, _⟩ := q.lst
  refine ⟨⟨p1, vs, e1, .inl (.inl e2)⟩, F, ρ, E.up e, ?_⟩
  cases hr : mb ρ with
  | ok d2 =>
    rw [hr] at p'
    exact fun u H2 e2 r2 => ⟨F, .lst xs, [d2], σ, q.up e2, .cons (.inl r2) .nil, (E.up (e.trans e2)).dom, Post.up (r := meD m (.lst xs) [d2]) p' e2⟩
  | okm ys =>
    rw [hr] at p'
    exact fun u H2 e2 r2 => ⟨F, .lst xs, [.lst ys], σ, q.up e2, .cons (.inr ⟨ys, rfl, r2⟩) .nil, (E.up (e.trans e2)).dom, Post.up (r := meD m (.lst xs) [.lst ys]) p' e2⟩
  | exc c => rw [hr] at p'; exact p'
  | bad => rw [hr] at p'; exact p'
/-- of a constant tuple -/
theorem pe_meTD (hK : X.K = G.K) {p0 : Addr} {o0 : Obj} (hk : X.K.lookup p0 = some o0) (hc : o0.cls = .type "tuple") (hd0 : o0.dict = none) {d0 : D} (hma : ∀ ρ, ma ρ = .ok d0) (hrep : ∀ H, Rep G H (.ref p0) d0) (ha : PE X a (tC (.ref p0))) (slot : Slot "tuple" name id) (ty : typeOf (.builtin id) = pure (.type "method_descriptor")) (rule : MtR X id (rmD G W .indexT)) (hb : PE X b (tE G W mb)) (hs : starEach [b] X.env = [(false, eval b X.env)]) (hbase : attributeBase a name X.env (eval a X.env) = eval a X.env) (hline : (apos.endLine == pos.line) = true)
    (hfew : ((backTo pos (starEach [b] X.env)).all (fun x => !x.1) && (backToKw pos (keywordEach [] X.env)).all (fun x => x.1.isSome) && decide ([b].length + ([] : List Keyword).length + (if ([] : List Keyword).isEmpty then 0 else 1) < 30)) = true) :
    PE X (.Call (.Attribute a name apos) [b] [] pos) (tE G W fun ρ => (ma ρ).bnd fun x => meR .indexT x (consW (mb ρ) (.ok []))) := PE.imp (pe_bm PySem.F.plainAttrs_tuple slot ty rule ha (pa_cons hb pa_nil (by rw [hs]; rfl)) hbase hfew hline (by rw [hs]; rfl) rfl) fun σ H Q h => by
  obtain ⟨F, ρ, E, p⟩ := h
  replace p : Post G F W σ H Q ((ma ρ).bnd fun x => meR .indexT x (consW (mb ρ) (.ok []))) := p
  rw [hma] at p
  replace p : Post G F W σ H Q (meR .indexT d0 (consW (mb ρ) (.ok []))) := p
  unfold meR at p
  obtain ⟨z, p'⟩ := if_ok (P := Post G F W σ H Q) p (fun z => z)
  refine ⟨.inr (.inl ⟨rfl, o0, hk, hc, hd0⟩), F, ρ, E, ?_⟩
  cases hr : mb ρ with
  | ok d2 =>
    rw [hr] at p'
    exact fun u H2 e2 r2 => ⟨F, d0, [d2], σ, .inl (hrep _), .cons (.inl r2) .nil, (E.up e2).dom, Post.up (r := meD .indexT d0 [d2]) p' e2⟩
  | okm ys =>
    rw [hr] at p'
    exact fun u H2 e2 r2 => ⟨F, d0, [.lst ys], σ, .inl (hrep _), .cons (.inr ⟨ys, rfl, r2⟩) .nil, (E.up e2).dom, Post.up (r := meD .indexT d0 [.lst ys]) p' e2⟩
  | exc c => rw [hr] at p'; exact p'
  | bad => rw [hr] at p'; exact p'
end
end Dk

/-! DkZ: list(range(..)). -/
namespace Dk
open PySem PySem.Spec PyProof.Rows L2
section
variable {X : L2.Cx} {G : Ge} {W : WX} {a b c e : Expr} {ma mb mc : En → R} {p pos : Pos}
abbrev TRc := VS → Hp → (Int → Int → Int → Hp → Prop) → Prop
/-- an expression that makes a range -/
def PRc (X : L2.Cx) (e : Expr) (t : TRc) : Prop :=
  ∀ (pins : List (Addr × Obj)) (s : Shared) (σ : VS) (H : Hp) (Q : Int → Int → Int → Hp → Prop), L2.Inv X pins σ H s → t σ H Q →
    wpAny (model X.prog X.w) X.A (eval e X.env) (fun x s' => ∃ r i j k t u v H', x = .ref r ∧ IsRange s'.heap r i j k t u v ∧ L2.Inv X pins σ H' s' ∧ Q i j k H') X.xe s
/-- what makes it asks -/
def RgM (i j k : Int) : Prop := k ≠ 0 ∧ (k.natAbs < 2 ^ 62 ∧ (j - i).natAbs < 2 ^ 64)
def tRc3 (ta : TA) : TRc := fun σ H Q => ta σ H fun vs H1 => ∃ i j k, vs = [.int i, .int j, .int k] ∧ RgC i j k (((j - i + k - 1) / k).toNat) ∧ Q i j k H1
theorem prc_3 {ta : TA} (hg : Gl X "range") (hm : X.mg "range" = none) (ha : PA X [a, b, c] ta) (hs : starEach [a, b, c] X.env = (false, eval a X.env) :: starEach [b, c] X.env) (hpl : (backTo pos (starEach [b, c] X.env)).any (·.1) = false) : PRc X (.Call (.Name "range" p) [a, b, c] [] pos) (tRc3 ta) := by
  intro pins s σ H Q I h
  refine Call_ (ld_blt I hg hm boot_range (PyProof.Rows.callWith_type1 (thn (ha.run pos pins s σ H _ I h) fun us s1 ⟨vs, H1, I1, r1, q1⟩ => ?_) hs hpl))
  obtain ⟨i, j, k, ev, ⟨c0, c1, c2, c3⟩, q⟩ := q1
  subst ev
  cases r1 with
  | cons x1 rr => cases rr with
    | cons x2 rr => cases rr with
      | cons x3 rr =>
        cases rr
        obtain ⟨t, rfl⟩ := x1
        obtain ⟨t', rfl⟩ := x2
        obtain ⟨t'', rfl⟩ := x3
        refine call_range_3 c0 ?_ (.inl (PyProof.noPylong_small c1))
        exact ⟨_, i, j, k, _, _, _, H1, rfl, IsRange.new _ _ _ _ _ _ _, I1.kept (t' := s1.toks) fun b u z => Heap.get?_push_of_some _ z, q⟩
def tRc12 (t : VS → Hp → (Int → Int → Hp → Prop) → Prop) : TRc := fun σ H Q => t σ H fun i j H1 => Q i j 1 H1
theorem prc_of {t : VS → Hp → (Int → Int → Hp → Prop) → Prop} (h : PRg X e t) : PRc X e (tRc12 t) := fun pins s σ H Q I q =>
  wpAny_mono (h pins s σ H _ I q) (fun x s' ⟨r, a, b, t, u, v, H', e1, e2, e3, e4⟩ => ⟨r, a, b, 1, t, u, v, H', e1, e2, e3, e4⟩) fun _ _ z => z
def tLstRc (t : TRc) : TE := fun σ H Q => t σ H fun i j k H1 => ∃ n, (Builtin.Range.small i j k = true ∧ Builtin.Range.rangeSize i j k = (n : Nat) ∧ n ≤ 2 ^ 24) ∧ ∀ q, H1 q = none → Q (.ref q) (upd H1 q (.lst ((List.range n).map fun (m : Nat) => V.int (i + (m : Int) * k))))
theorem pe_listRc {t : TRc} (hc : X.calm = true) (hg : Gl X "list") (hm : X.mg "list" = none) (he : PRc X e t) (na : starEach [e] X.env = (false, eval e X.env) :: starEach [] X.env := by rfl) : PE X (.Call (.Name "list" p) [e] [] pos) (tLstRc t) := by
  refine ⟨fun pins s σ H Q I h => ?_⟩
  refine Call_ (ld_blt I hg hm boot_list (PyProof.Rows.callWith_type1 (args_cons (thn (he pins s σ H _ I h) fun x s1 w => args_nil ?_) na) na))
  obtain ⟨r, i, j, k, t, u, v, H1, ex, hr, I1, n, ⟨b1, b2, b3⟩, q⟩ := w
  subst ex
  refine call_list_range (n := n) (I1.ok.hd hc) hr b1 b2 b3 fun h' tk acc c' hk e' hi => ?_
  have vl : Vals ((List.range n).map fun (m : Nat) => V.int (i + (m : Int) * k)) acc.toList := by
    have el : acc.toList.length = n := by rw [Array.length_toList]; exact hi.1
    rw [← el]
    refine vals_of_get acc.toList _ fun m z hz => ?_
    exact hi.2 m z (by rw [← hz, Array.getElem?_toList])
  refine ⟨.ref s1.heap.objs.size, upd H1 s1.heap.objs.size (.lst _), I1.laid hk (Nat.le_refl _) (show ObjOk X.prog X.w _ _ _ (.lst _) from ⟨?_, acc.toList, c', vl, ?_⟩), rfl, q _ (I1.hok.fresh (Nat.le_refl _))⟩
  · rw [List.length_map, List.length_range, sizeLine_eq]; omega
  · rw [Array.toArray_toList]; exact e'
theorem rep_rng {H : Hp} {i k : Int} : ∀ (l : List Nat), RepL G H (l.map fun (m : Nat) => V.int (i + (m : Int) * k)) (l.map fun (m : Nat) => D.int (i + (m : Nat) * k))
  | [] => .nil
  | m :: l => .cons (.int _) (rep_rng l)
theorem rng_fin {F : Addr → Prop} {ρ : En} {σ : VS} {H H2 : Hp} {Q : VK} {i j k : Int} (E : EnvE G F ρ σ H2) (p : Post G F W σ H Q ((rngD i j k).bnd fun ds => .ok (.lst ds))) (e : Same H H2) : ∃ n, (Builtin.Range.small i j k = true ∧ Builtin.Range.rangeSize i j k = (n : Nat) ∧ n ≤ 2 ^ 24) ∧ ∀ q, H2 q = none → Q (.ref q) (upd H2 q (.lst ((List.range n).map fun (m : Nat) => V.int (i + (m : Int) * k)))) := by
  unfold rngD at p
  split at p
  · rename_i c
    replace p : Post G F W σ H Q (.ok (.lst ((List.range ((j - i + k - 1) / k).toNat).map fun m => .int (i + (m : Nat) * k)))) := p
    have hl := rng_len (f := fun m => D.int (i + (m : Nat) * k)) (i := i) (j := j) (k := k) (by omega) (by omega)
    have hl2 : ((j - i + k - 1) / k).toNat ≤ 2 ^ 24 := by
      rw [List.length_map, List.length_range] at hl
      have : sizeLine = 16777216 := sizeLine_eq
      omega
    refine ⟨_, ⟨rng_small ⟨c.1, c.2.1, c.2.2.1, c.2.2.2.1, c.2.2.2.2.1, c.2.2.2.2.2.1⟩, rng_size c.1, hl2⟩, fun q hq => ?_⟩
    exact p _ _ (e.trans (same_upd hq)) (new_lst E.dom hq (by rw [List.length_map] at hl ⊢; exact hl) (rep_rng _))
  · exact False.elim p
/-- w is true: a list that a name holds may be walked -/
theorem toW_any {r : R} {f : D → Wk} {F : Addr → Prop} {σ : VS} {H : Hp} {Q : VK} (h : Post G F W σ H Q ((r.toW true f).bnd fun ds => .ok (.lst ds))) (K : VK) (k : ∀ d v H', Same H H' → RepW G F H' v d → Post G F W σ H Q ((f d).bnd fun ds => .ok (.lst ds)) → K v H') : Post G F W σ H K r := by
  cases r with
  | ok d => exact fun v H' e q => k d v H' e (.inl q) h
  | okm xs => exact fun v H' e q => k (.lst xs) v H' e (.inr ⟨xs, rfl, q⟩) h
  | exc c => exact h
  | bad => exact h
theorem pe_rngL1 (hc : X.calm = true) (hgl : Gl X "list") (hml : X.mg "list" = none) (hg : Gl X "range") (hm : X.mg "range" = none) (ha : PE X a (tE G W ma)) {q1 o1 : Pos} (na : starEach [a] X.env = (false, eval a X.env) :: starEach [] X.env)
    (nc : starEach [.Call (.Name "range" q1) [a] [] o1] X.env = (false, eval (.Call (.Name "range" q1) [a] [] o1) X.env) :: starEach [] X.env) :
    PE X (.Call (.Name "list" p) [.Call (.Name "range" q1) [a] [] o1] [] pos) (tE G W fun ρ => ((ma ρ).toW true rngW1).bnd fun ds => .ok (.lst ds)) := PE.imp (pe_listRc hc hgl hml (prc_of (prg_1 hg hm ha na)) nc) fun σ H Q h => by
  obtain ⟨F, ρ, E, p⟩ := h
  refine ⟨F, ρ, E, toW_any p _ fun d v H' e r p' => ?_⟩
  cases d <;> try exact False.elim p'
  exact ⟨_, r.int, rng_fin (E.up e) p' e⟩
theorem pe_rngL2 (hc : X.calm = true) (hgl : Gl X "list") (hml : X.mg "list" = none) (hg : Gl X "range") (hm : X.mg "range" = none) (ha : PE X a (tE G W ma)) (hb : PE X b (tE G W mb)) {q1 o1 : Pos} (na : starEach [a, b] X.env = (false, eval a X.env) :: starEach [b] X.env) (nb : starEach [b] X.env = (false, eval b X.env) :: starEach [] X.env) (hp : (backTo o1 (starEach [b] X.env)).any (·.1) = false)
    (nc : starEach [.Call (.Name "range" q1) [a, b] [] o1] X.env = (false, eval (.Call (.Name "range" q1) [a, b] [] o1) X.env) :: starEach [] X.env) :
    PE X (.Call (.Name "list" p) [.Call (.Name "range" q1) [a, b] [] o1] [] pos) (tE G W fun ρ => ((ma ρ).toW true fun x => (mb ρ).toW true fun y => rngW2 x y).bnd fun ds => .ok (.lst ds)) := PE.imp (pe_listRc hc hgl hml (prc_of (prg_2 hg hm ha hb na nb hp)) nc) fun σ H Q h => by
  obtain ⟨F, ρ, E, p⟩ := h
  refine ⟨F, ρ, E, toW_any p _ fun d v H' e r p' => ⟨F, ρ, E.up e, toW_any (p'.up e) _ fun d2 u H2 e2 r2 p3 => ?_⟩⟩
  cases d <;> try exact False.elim p3
  cases d2 <;> try exact False.elim p3
  exact ⟨_, _, r.int, r2.int, rng_fin (E.up (e.trans e2)) p3 e2⟩
theorem pe_rngL3 (hc : X.calm = true) (hgl : Gl X "list") (hml : X.mg "list" = none) (hg : Gl X "range") (hm : X.mg "range" = none) (ha : PE X a (tE G W ma)) (hb : PE X b (tE G W mb)) (hd : PE X c (tE G W mc)) {q1 o1 : Pos} (na : starEach [a, b, c] X.env = (false, eval a X.env) :: starEach [b, c] X.env) (nb : starEach [b, c] X.env = (false, eval b X.env) :: starEach [c] X.env) (nd : starEach [c] X.env = (false, eval c X.env) :: starEach [] X.env) (hp : (backTo o1 (starEach [b, c] X.env)).any (·.1) = false)
    (nc : starEach [.Call (.Name "range" q1) [a, b, c] [] o1] X.env = (false, eval (.Call (.Name "range" q1) [a, b, c] [] o1) X.env) :: starEach [] X.env) :
    PE X (.Call (.Name "list" p) [.Call (.Name "range" q1) [a, b, c] [] o1] [] pos) (tE G W fun ρ => ((ma ρ).toW true fun x => (mb ρ).toW true fun y => (mc ρ).toW true fun z => rngW3 x y z).bnd fun ds => .ok (.lst ds)) := PE.imp (pe_listRc hc hgl hml (prc_3 hg hm (pa_cons ha (pa_cons hb (pa_cons hd pa_nil nd) nb) na) na hp) nc) fun σ H Q h => by
  obtain ⟨F, ρ, E, p⟩ := h
  refine ⟨F, ρ, E, toW_any p _ fun d v H' e r p' => ⟨F, ρ, E.up e, toW_any (p'.up e) _ fun d2 u H2 e2 r2 p3 => ⟨F, ρ, E.up (e.trans e2), toW_any (p3.up e2) _ fun d3 u3 H3 e3 r3 p4 => ?_⟩⟩⟩
  cases d <;> try exact False.elim p4
  cases d2 <;> try exact False.elim p4
  cases d3 <;> try exact False.elim p4
  rename_i i j k
  have fin := rng_fin (E.up (e.trans (e2.trans e3))) p4 e3
  refine ⟨i, j, k, by rw [r.int, r2.int, r3.int], ?_, fin⟩
  replace p4 : Post G F W σ H2 Q ((rngD i j k).bnd fun ds => .ok (.lst ds)) := p4
  unfold rngD at p4
  split at p4
  · rename_i c
    exact ⟨by omega, by omega, rng_small ⟨c.1, c.2.1, c.2.2.1, c.2.2.2.1, c.2.2.2.2.1, c.2.2.2.2.2.1⟩, rng_size c.1⟩
  · exact False.elim p4
end
end Dk

/-! DkI: min, max of two, of some ints; str of an int. -/
namespace Dk
open PySem PySem.Spec PyProof.Rows L2
section
variable {X : L2.Cx} {G : Ge} {W : WX}
/-- min(xs), max(xs) of a tuple or a list of ints -/
def rBst (K : PySem.W.Frag) (f : Int → Int → Int) : List V → Hp → VK → Prop := fun vs H Q => ∃ (a : Addr) (i : Int) (ns : List Int), vs = [V.ref a] ∧ (SqT K H a ((i :: ns).map V.int) ∨ SqL K H a ((i :: ns).map V.int)) ∧ Q (.int (ns.foldl f i)) H
theorem dps_ints {K : PySem.W.Frag} {H : Hp} : ∀ ns : List Int, DpAll K H (ns.map V.int) (ns.map PyData.int)
  | [] => .nil
  | n :: ns => .cons (.int n) (dps_ints ns)
theorem depth_ints : ∀ ns : List Int, PyData.depthAll (ns.map PyData.int) = 0
  | [] => rfl
  | n :: ns => by
    show max (PyData.depth (.int n)) (PyData.depthAll (ns.map PyData.int)) = 0
    rw [depth_ints ns]
    rfl
theorem alike_ints (ns : List Int) : PySem.W.AlikeAll (ns.map PyData.int) := by
  refine ⟨fun x hx y hy => ?_, fun x hx => ?_⟩
  · obtain ⟨i, _, rfl⟩ := List.mem_map.mp hx
    obtain ⟨j, _, rfl⟩ := List.mem_map.mp hy
    simp [PySem.W.alike]
  · obtain ⟨i, _, rfl⟩ := List.mem_map.mp hx
    simp
theorem call_min1 (hc : X.calm = true) (hu : X.A.units + 65 < cLine) : CallR X (.builtin "min") (rBst X.K min) := by
  intro pins s σ H vs us Q I r h
  obtain ⟨a, i, ns, rfl, hs, q⟩ := h
  rw [Vals.ref1 r]
  have hd := dps_ints (K := X.K) (H := H) (i :: ns)
  have hz : X.A.units + 1 + PyData.depthAll ((i :: ns).map PyData.int) < cLine := by rw [depth_ints]; omega
  have fin : ∀ (v : Value) (h' : Heap) (tk : Nat) (bs : List Addr), Reads h' v (PySem.W.minD (.int i) (ns.map PyData.int)) bs → (∀ b o, s.heap.get? b = some o → h'.get? b = some o) → EP X pins σ Q v { s with heap := h', toks := tk } := fun v h' tk bs hr hk => by
    rw [PySem.W.minD_ints] at hr
    cases hr
    exact ⟨.int _, H, I.kept hk, ⟨_, rfl⟩, q⟩
  rcases hs with hs | hs
  · obtain ⟨its, rv, hT, _⟩ := I.tuple hs
    obtain ⟨as, rd⟩ := Dp.readsAll I _ _ its hd rv
    exact PySem.W.min_tuple_data (vs := its.toArray) (x := .int i) (xs := ns.map PyData.int) (I.ok.hd hc) hT (by simpa using rd) (alike_ints (i :: ns)) hz fun j v h' tk bs _ hr hk => fin v h' tk bs hr hk
  · obtain ⟨its, rv, hT, _⟩ := I.list hs
    obtain ⟨as, rd⟩ := Dp.readsAll I _ _ its hd rv
    exact PySem.W.min_list_data (vs := its.toArray) (x := .int i) (xs := ns.map PyData.int) (I.ok.hd hc) hT.isList (by simpa using rd) (alike_ints (i :: ns)) hz fun j v h' tk bs _ hr hk => fin v h' tk bs hr hk
theorem call_max1 (hc : X.calm = true) (hu : X.A.units + 65 < cLine) : CallR X (.builtin "max") (rBst X.K max) := by
  intro pins s σ H vs us Q I r h
  obtain ⟨a, i, ns, rfl, hs, q⟩ := h
  rw [Vals.ref1 r]
  have hd := dps_ints (K := X.K) (H := H) (i :: ns)
  have hz : X.A.units + 1 + PyData.depthAll ((i :: ns).map PyData.int) < cLine := by rw [depth_ints]; omega
  have fin : ∀ (v : Value) (h' : Heap) (tk : Nat) (bs : List Addr), Reads h' v (PySem.W.maxD (.int i) (ns.map PyData.int)) bs → (∀ b o, s.heap.get? b = some o → h'.get? b = some o) → EP X pins σ Q v { s with heap := h', toks := tk } := fun v h' tk bs hr hk => by
    rw [PySem.W.maxD_ints] at hr
    cases hr
    exact ⟨.int _, H, I.kept hk, ⟨_, rfl⟩, q⟩
  rcases hs with hs | hs
  · obtain ⟨its, rv, hT, _⟩ := I.tuple hs
    obtain ⟨as, rd⟩ := Dp.readsAll I _ _ its hd rv
    exact PySem.W.max_tuple_data (vs := its.toArray) (x := .int i) (xs := ns.map PyData.int) (I.ok.hd hc) hT (by simpa using rd) (alike_ints (i :: ns)) hz fun j v h' tk bs _ hr hk => fin v h' tk bs hr hk
  · obtain ⟨its, rv, hT, _⟩ := I.list hs
    obtain ⟨as, rd⟩ := Dp.readsAll I _ _ its hd rv
    exact PySem.W.max_list_data (vs := its.toArray) (x := .int i) (xs := ns.map PyData.int) (I.ok.hd hc) hT.isList (by simpa using rd) (alike_ints (i :: ns)) hz fun j v h' tk bs _ hr hk => fin v h' tk bs hr hk
/-- what represents some ints -/
theorem bst_in {F : Addr → Prop} {H : Hp} {v : V} {d : D} {f : Int → Int → Int} {σ : VS} {Q : VK} (hK : X.K = G.K) (r : RepW G F H v d) (h : Post G F W σ H Q (bstI f d)) : rBst X.K f [v] H Q := by
  unfold bstI at h
  split at h
  · rename_i i is hi
    obtain ⟨xs, h1, h2⟩ := Option.bind_eq_some_iff.mp hi
    cases d with
    | tup ys =>
      cases h1
      obtain ⟨a, vs, e, s1, _, q0⟩ := r.tup
      have q1 := q0.1
      subst e
      rw [(intsOf_eq h2 ▸ q1 : RepL G (sol H F) vs ((i :: is).map D.int)).ints] at s1
      exact ⟨a, i, is, rfl, .inl (by rw [hK]; exact s1), Post.ok (d := .int _) h (.int _)⟩
    | lst ys =>
      cases h1
      obtain ⟨a, vs, e, s1, _, q1⟩ := r.lst
      subst e
      rw [(intsOf_eq h2 ▸ q1 : RepL G (sol H F) vs ((i :: is).map D.int)).ints] at s1
      exact ⟨a, i, is, rfl, .inr (.inl (.inl s1)), Post.ok (d := .int _) h (.int _)⟩
    | _ => cases h1
  · exact h.elim
theorem max_one (d : D) : biD .max [d] = bstI max d := by cases d <;> rfl
theorem bi_max (hc : X.calm = true) (hu : X.A.units + 65 < cLine) (hK : X.K = G.K) : CallR X (.builtin "max") (rsD G W (biD .max)) := CallR.by fun vs H Q ⟨F, ds, σ, r, dom, h⟩ => by
  match ds, r, h with
  | [d], r, h =>
    obtain ⟨v, e, r1⟩ := r.one
    subst e
    exact ⟨_, call_max1 hc hu, bst_in hK r1 (by rw [max_one] at h; exact h)⟩
  | [d, d'], r, h =>
    obtain ⟨v, u, e, r1, r2⟩ := r.two
    subst e
    cases d <;> try exact (show False from h).elim
    cases d' <;> try exact (show False from h).elim
    rename_i i j
    have e1 := r1.int
    have e2 := r2.int
    subst e1 e2
    exact ⟨_, call_max2 hc, i, j, rfl, Post.ok (d := .int (if j > i then j else i)) h (.int _)⟩
  | [], r, h => exact (show False from h).elim
  | a :: b :: _ :: _, r, h => exact (show False from (by cases a <;> cases b <;> exact h)).elim
/-! ### str of an int -/
theorem digs_ok : ∀ n : Nat, n < 1000 → (natDigits n).length ≤ 10 ∧ ∀ k ∈ natDigits n, k < 1114112 := by
  have : ∀ n : Fin 1000, (natDigits n.val).length ≤ 10 ∧ ∀ k ∈ natDigits n.val, k < 1114112 := by decide +kernel
  exact fun n h => this ⟨n, h⟩
theorem digs_str (n : Nat) : Str.ofString (toString (n : Int)) = sV (natDigits n) := by
  rw [Str.ofString_eq_toList]
  have e : toString (n : Int) = String.ofList (Nat.toDigits 10 n) := rfl
  rw [e, String.toList_ofList]
  rfl
theorem bi_str : CallR X (.type "str") (rsD G W (biD .str)) := bi1 (fun ds => by match ds with | [] => exact .inr rfl | [d] => exact .inl ⟨d, rfl⟩ | _ :: _ :: _ => exact .inr rfl) fun F H v d σ Q r1 dom h => by
  cases d <;> try exact (show False from h).elim
  rename_i i
  have e1 := r1.int
  subst e1
  replace h : Post G F W σ H Q (if 0 ≤ i ∧ i < 1000 then .ok (.str (natDigits i.toNat)) else .bad) := h
  obtain ⟨c, h⟩ := if_ok (P := Post G F W σ H Q) h (fun z => z)
  obtain ⟨z1, z2⟩ := digs_ok i.toNat (by omega)
  have q := Post.ok (d := .str (natDigits i.toNat)) h (.str _ ⟨by rw [sizeLine_eq]; omega, z2⟩)
  refine ⟨_, call_str_int, i, rfl, ?_, ?_⟩
  · have : ∀ n : Fin 1000, n.val.log2 < 1920 := by decide +kernel
    exact this ⟨i.natAbs, by omega⟩
  · have e : Str.ofString (toString i) = sV (natDigits i.toNat) := by
      have := digs_str i.toNat
      rwa [show ((i.toNat : Nat) : Int) = i by omega] at this
    rw [e]
    exact q
end
end Dk

/-! DkJ: sorted. -/
namespace Dk
open PySem PySem.Spec PyProof.Rows L2
section
variable {X : L2.Cx} {G : Ge} {W : WX}
def keyP (b : V × D) : PyData := toP b.2
def rSrt (K : PySem.W.Frag) : List V → Hp → VK → Prop := fun vs H Q => ∃ (a : Addr) (bs : List (V × D)), vs = [V.ref a] ∧ SqL K H a (bs.map (·.1)) ∧ (∀ b ∈ bs, Dp K H b.1 (keyP b) ∧ (keyP b).depth ≤ 60) ∧ PySem.W.AllAlike (bs.map keyP) ∧ PySem.W.Sortable (bs.map keyP) ∧
  ∀ p, H p = none → Q (.ref p) (upd H p (.lst ((bs.mergeSort (PySem.W.dataLe false keyP)).map (·.1))))
theorem each_vals : ∀ {bs : List (V × D)} {us : List Value}, Vals (bs.map (·.1)) us → PySem.W.EachIs (fun u b => RelV b.1 u) us bs
  | [], [], .nil => .nil
  | _ :: _, _ :: _, .cons r t => .cons r (each_vals t)
theorem vals_each : ∀ {bs : List (V × D)} {us : List Value}, PySem.W.EachIs (fun u b => RelV b.1 u) us bs → Vals (bs.map (·.1)) us
  | [], [], .nil => .nil
  | _ :: _, _ :: _, .cons r t => .cons r (vals_each t)
theorem each_reads {pins : List (Addr × Obj)} {σ : L2.St} {H : Hp} {s : Shared} (I : Inv X pins σ H s) : ∀ {bs : List (V × D)} {us : List Value}, (∀ b ∈ bs, Dp X.K H b.1 (keyP b)) → Vals (bs.map (·.1)) us → PySem.W.EachIs (fun v b => ∃ as, Reads s.heap v (keyP b) as) us bs
  | [], [], _, .nil => .nil
  | b :: _, u :: _, h, .cons r t => .cons (Dp.reads I _ _ u (h b (List.mem_cons_self ..)) r) (each_reads I (fun y hy => h y (List.mem_cons_of_mem _ hy)) t)
theorem call_srt (hu : X.A.units + 65 < cLine) : CallR X (.builtin "sorted") (rSrt X.K) := by
  intro pins s σ H vs us Q I r h
  obtain ⟨a, bs, rfl, hs, hd, ha, hk, q⟩ := h
  obtain ⟨its, rv, hl, hz⟩ := I.list hs
  rw [Vals.ref1 r]
  have hlen : bs.length ≤ sizeLine := by
    rw [List.length_map] at hz
    exact hz
  refine PySem.W.sorted_data (vs := its) (bs := bs) (enc := keyP) (R := fun u b => RelV b.1 u) hl.isList (each_vals rv) (each_reads I (fun b hb => (hd b hb).1) rv) ha hk hlen (fun b hb => by have := (hd b hb).2; omega) fun out h1 h2 => ?_
  obtain ⟨ep, he'⟩ := PyProof.Rows.sortedAll_at s.heap its (List.toArray out)
  have hv := vals_each h2
  have hlen2 : ((bs.mergeSort (PySem.W.dataLe false keyP)).map (·.1)).length ≤ sizeLine := by rw [List.length_map, List.length_mergeSort]; exact hlen
  exact ⟨.ref _, upd H (s.heap.objs.size + 1) (.lst _), I.laid (t' := s.toks) (fun _ _ => PyProof.Rows.sortedAll_old) (Nat.le_succ _) ⟨hlen2, out, ep, hv, he'⟩, rfl, q _ (I.hok.fresh (Nat.le_succ _))⟩
theorem repL_zip {H : Hp} : ∀ {vs : List V} {xs : List D}, RepL G H vs xs → (vs.zip xs).map (·.1) = vs ∧ (vs.zip xs).map (·.2) = xs ∧ ∀ b ∈ vs.zip xs, Rep G H b.1 b.2
  | _, _, .nil => ⟨rfl, rfl, fun b hb => by cases hb⟩
  | _, _, .cons h t => by
    obtain ⟨h1, h2, h3⟩ := repL_zip t
    refine ⟨by rw [List.zip_cons_cons, List.map_cons, h1], by rw [List.zip_cons_cons, List.map_cons, h2], fun b hb => ?_⟩
    rcases List.mem_cons.mp hb with rfl | hb
    · exact h
    · exact h3 b hb
theorem repL_of {H : Hp} : ∀ (bs : List (V × D)), (∀ b ∈ bs, Rep G H b.1 b.2) → RepL G H (bs.map (·.1)) (bs.map (·.2))
  | [], _ => .nil
  | b :: bs, h => .cons (h b (List.mem_cons_self ..)) (repL_of bs fun y hy => h y (List.mem_cons_of_mem _ hy))
theorem le_toP {a b : D} (h : (cmpD b a).isSome = true) : (!(PySem.W.dataLt (toP b) (toP a))) = leD a b := by
  obtain ⟨o, ho⟩ := Option.isSome_iff_exists.mp h
  obtain ⟨_, _, h3, _⟩ := lt_toP b a o ho
  unfold leD
  rw [h3, ho]
  cases o <;> rfl
theorem bi_sorted (hu : X.A.units + 65 < cLine) (hK : X.K = G.K) : CallR X (.builtin "sorted") (rsD G W (biD .sorted)) := bi1 (fun ds => by match ds with | [] => exact .inr rfl | [d] => exact .inl ⟨d, rfl⟩ | _ :: _ :: _ => exact .inr rfl) fun F H v d σ Q r1 dom h => by
  cases d with
  | lst xs =>
    replace h : Post G F W σ H Q (if srtOk xs = true then .ok (.lst (xs.mergeSort leD)) else .bad) := h
    obtain ⟨c, h⟩ := if_ok (P := Post G F W σ H Q) h (fun z => z)
    unfold srtOk at c
    rw [Bool.and_eq_true, Bool.and_eq_true] at c
    obtain ⟨c1, c2, c3⟩ := c
    obtain ⟨a, vs, e, s1, l1, q1⟩ := r1.lst
    subst e
    obtain ⟨z1, z2, z3⟩ := repL_zip q1
    have hc : ∀ x ∈ xs, ∀ y ∈ xs, (cmpD x y).isSome = true := fun x hx y hy => List.all_eq_true.mp (List.all_eq_true.mp c1 x hx) y hy
    have mem : ∀ b ∈ vs.zip xs, b.2 ∈ xs := fun b hb => by rw [← z2]; exact List.mem_map.mpr ⟨b, hb, rfl⟩
    have dl : ∀ x ∈ xs, datN 59 x = true := by
      have : ∀ ys : List D, datL 59 ys = true → ∀ x ∈ ys, datN 59 x = true := fun ys => by
        induction ys with
        | nil => intro _ x hx; cases hx
        | cons y ys ih =>
          intro hy x hx
          have hy' : datN 59 y = true ∧ datL 59 ys = true := by simpa [datL] using hy
          rcases List.mem_cons.mp hx with rfl | hx
          · exact hy'.1
          · exact ih hy'.2 x hx
      exact this xs c2
    refine ⟨_, call_srt hu, a, vs.zip xs, rfl, .inl (.inl (by rw [z1]; exact s1)), fun b hb => ?_, fun p hp q hq => ?_, ?_, fun p hp => ?_⟩
    · obtain ⟨k1, _, k3⟩ := Rep.dp (H := H) b.2 59 b.1 (Rep.same sol_le b.2 b.1 (z3 b hb)) (dl _ (mem b hb))
      exact ⟨by rw [hK]; exact k1, by show (toP b.2).depth ≤ 60; omega⟩
    · obtain ⟨b, hb, rfl⟩ := List.mem_map.mp hp
      obtain ⟨b2, hb2, rfl⟩ := List.mem_map.mp hq
      obtain ⟨o, ho⟩ := Option.isSome_iff_exists.mp (hc _ (mem b hb) _ (mem b2 hb2))
      exact (lt_toP _ _ o ho).1
    · rw [Bool.or_eq_true] at c3
      rcases c3 with c3 | c3
      · right
        intro p hp
        obtain ⟨b, hb, rfl⟩ := List.mem_map.mp hp
        have := List.all_eq_true.mp c3 _ (mem b hb)
        unfold keyP
        cases e : b.2 <;> rw [e] at this <;> first | (cases this; done) | (simp [toP])
      · left
        intro p hp
        obtain ⟨b, hb, rfl⟩ := List.mem_map.mp hp
        have := List.all_eq_true.mp c3 _ (mem b hb)
        unfold keyP
        cases e : b.2 with
        | tup ys =>
          rw [e] at this
          cases ys with
          | nil => cases this
          | cons y ys => exact ⟨toP y, toPs ys, rfl⟩
        | _ => rw [e] at this; cases this
    · have es : ((vs.zip xs).mergeSort (PySem.W.dataLe false keyP)).map (·.2) = xs.mergeSort leD := by
        have := List.map_mergeSort (r := PySem.W.dataLe false keyP) (s := leD) (f := fun b : V × D => b.2) (l := vs.zip xs) fun b hb b2 hb2 => by
          show (!(PySem.W.dataLt (keyP b2) (keyP b))) = _
          exact le_toP (hc _ (mem b2 hb2) _ (mem b hb))
        rw [this, z2]
      have rl := repL_of ((vs.zip xs).mergeSort (PySem.W.dataLe false keyP)) fun b hb => z3 b (List.mem_mergeSort.mp hb)
      rw [es] at rl
      refine h _ _ (same_upd hp) (new_lst dom hp ?_ rl)
      rw [List.length_map, List.length_mergeSort]
      have := congrArg List.length z1
      rw [List.length_map] at this
      omega
  | _ => exact (show False from h).elim
end
end Dk

/-! DkK: i in range(j). -/
namespace Dk
open PySem PySem.Spec PyProof.Rows L2
section
variable {X : L2.Cx} {G : Ge} {W : WX} {a b : Expr} {q o pos : Pos} {ma mb : En → R}
theorem cr_range1 : CallR X (.type "range") (fun vs H Q => ∃ j, vs = [V.int j] ∧ ∀ p, H p = none → Q (.ref p) (upd H p (.rng 0 j))) := by
  intro pins s σ H vs us Q I r h
  obtain ⟨j, rfl, q⟩ := h
  obtain ⟨u1, rfl, ri⟩ := vals1 r
  obtain ⟨t, rfl⟩ := ri
  refine call_range_1 ⟨.ref s.heap.objs.size, upd H s.heap.objs.size (.rng 0 j), I.laid (t' := s.toks + 1 + 1) (fun b o e => Heap.get?_push_of_some _ e) (Nat.le_refl _) ?_, rfl, q _ (I.hok.fresh (Nat.le_refl _))⟩
  exact ⟨_, _, _, Heap.get?_push_size _ rfl⟩
theorem inR_te (σ : VS) (H : Hp) (Q : VK) (h : tE G W (fun ρ => (ma ρ).bnd fun x => (mb ρ).bnd fun y => inRD x y) σ H Q) :
    tOp (fun x y H Q => ∃ i a lo hi, x = V.int i ∧ y = V.ref a ∧ H a = some (.rng lo hi) ∧ Q (.bl (decide (lo ≤ i ∧ i < hi))) H) (tE G W ma) (tCB (fun vs H Q => ∃ j, vs = [V.int j] ∧ ∀ p, H p = none → Q (.ref p) (upd H p (.rng 0 j))) (tCons (tE G W mb) tNil)) σ H Q := by
  obtain ⟨F, ρ, E, p⟩ := h
  refine ⟨F, ρ, E, Post.w p _ fun d v H1 e1 r1 p1 => ?_⟩
  refine ⟨F, ρ, E.up e1, Post.w p1 _ fun d2 u H2 e2 r2 p2 => ?_⟩
  cases d <;> try exact False.elim p2
  cases d2 <;> try exact False.elim p2
  have x1 := r1.int
  have x2 := r2.int
  subst x1 x2
  exact ⟨_, rfl, fun p hp => ⟨_, p, _, _, rfl, rfl, upd_same, p2 _ _ (same_upd hp) (.bl _)⟩⟩
theorem pe_inR (hg : Gl X "range") (hm : X.mg "range" = none) (ha : PE X a (tE G W ma)) (hb : PE X b (tE G W mb)) (nb : starEach [b] X.env = (false, eval b X.env) :: starEach [] X.env) :
    PE X (.Compare a [.In] [.Call (.Name "range" q) [b] [] o] pos) (tE G W fun ρ => (ma ρ).bnd fun x => (mb ρ).bnd fun y => inRD x y) :=
  PE.imp (pe_cmpR op_in_rng ha (pe_callTy cr_range1 hg hm boot_range (pa_cons hb pa_nil nb) (by decide) (by decide) nb rfl) rfl) fun σ H Q h => inR_te σ H Q h
theorem pt_inR (hg : Gl X "range") (hm : X.mg "range" = none) (ha : PE X a (tE G W ma)) (hb : PE X b (tE G W mb)) (nb : starEach [b] X.env = (false, eval b X.env) :: starEach [] X.env) :
    PT X (.Compare a [.In] [.Call (.Name "range" q) [b] [] o] pos) (tT G W fun ρ => (ma ρ).bnd fun x => (mb ρ).bnd fun y => inRD x y) :=
  PT.imp (pt_cmpR op_in_rng ha (pe_callTy cr_range1 hg hm boot_range (pa_cons hb pa_nil nb) (by decide) (by decide) nb rfl) rfl) fun σ H Q h => inR_te σ H _ (tT.val (fun ρ => bin_isB (fun x y => isB_inR x y) ρ) h)
end
end Dk

/-! DkL: min of a list of tuples. -/
namespace PySem.W
open PySem PySem.SeqAt PyProof.Rows
section
variable {prog : Program} {w : World} {A : Around} {E : Value → Shared → Prop} {s : Shared}
/-- min of a list of alike data: which item it is -/
theorem min_list_ix {l : Addr} {vs : Array Value} {x : PyData} {xs : List PyData} {as : List Addr} {Q : Value → Shared → Prop} (hh : A.handled = none) (hl : s.heap.IsList l vs) (hr : ReadsAll s.heap vs.toList (x :: xs) as) (ha : AlikeAll (x :: xs)) (hu : A.units + 1 + PyData.depthAll (x :: xs) < cLine)
    (h : ∀ v h' tk, vs[argBest (fun i j => dataLt ((x :: xs).getD i .none) ((x :: xs).getD j .none)) xs.length]? = some v → (∀ b o, s.heap.get? b = some o → h'.get? b = some o) → Q v { s with heap := h', toks := tk }) :
    wpAny (model prog w) A (call (.builtin "min") [.ref l]) Q E s := by
  have hn : vs.size = xs.length + 1 := readsAll_len hr
  refine call_min_walkH (iter_listW (A := A.in1) hh hl fun s₂ e W st hfp hw hk => ?_)
  refine ⟨_, _, _, _, _, _, _, s.heap, _, rfl, W, st, hfp, by omega, hw, hk, cmpIn_lt (A := A.in1) hr ha (by show A.units + 1 + _ < _; exact hu), fun v s' hP m => ?_⟩
  obtain ⟨h', tk, rfl, hk'⟩ := moved_old e rfl m
  have e1 : vs.size - 1 = xs.length := by omega
  rw [e1] at hP
  exact h v h' tk hP hk'
end
end PySem.W
namespace Dk
open PySem PySem.Spec PyProof.Rows L2
section
variable {X : L2.Cx} {G : Ge} {W : WX}
def ltP (y a : V × D) : Bool := PySem.W.dataLt (keyP y) (keyP a)
def rMinT (K : PySem.W.Frag) : List V → Hp → VK → Prop := fun vs H Q => ∃ (a : Addr) (b : V × D) (bs : List (V × D)), vs = [V.ref a] ∧ SqL K H a ((b :: bs).map (·.1)) ∧ (∀ c ∈ b :: bs, Dp K H c.1 (keyP c) ∧ (keyP c).depth ≤ 60) ∧ PySem.W.AlikeAll ((b :: bs).map keyP) ∧ Q (bs.foldl (fun m y => if ltP y m then y else m) b).1 H
theorem dps_all {K : PySem.W.Frag} {H : Hp} : ∀ bs : List (V × D), (∀ c ∈ bs, Dp K H c.1 (keyP c)) → DpAll K H (bs.map (·.1)) (bs.map keyP)
  | [], _ => .nil
  | b :: bs, h => .cons (h b (List.mem_cons_self ..)) (dps_all bs fun c hc => h c (List.mem_cons_of_mem _ hc))
theorem depth_all : ∀ bs : List (V × D), (∀ c ∈ bs, (keyP c).depth ≤ 60) → PyData.depthAll (bs.map keyP) ≤ 60
  | [], _ => Nat.zero_le _
  | b :: bs, h => by
    show max (PyData.depth (keyP b)) (PyData.depthAll (bs.map keyP)) ≤ 60
    exact Nat.max_le.mpr ⟨h b (List.mem_cons_self ..), depth_all bs fun c hc => h c (List.mem_cons_of_mem _ hc)⟩
theorem vals_at : ∀ {vs : List V} {us : List Value} {i : Nat} {u : Value}, Vals vs us → us[i]? = some u → ∃ v, vs[i]? = some v ∧ RelV v u
  | _, _, _, _, .nil, h => by simp at h
  | v :: _, u :: _, 0, _, .cons r t, h => by
    cases h
    exact ⟨v, rfl, r⟩
  | _ :: _, _ :: _, i + 1, _, .cons r t, h => by
    rw [List.getElem?_cons_succ] at h
    obtain ⟨v, h1, h2⟩ := vals_at t h
    exact ⟨v, by rw [List.getElem?_cons_succ]; exact h1, h2⟩
theorem call_minT (hc : X.calm = true) (hu : X.A.units + 65 < cLine) : CallR X (.builtin "min") (rMinT X.K) := by
  intro pins s σ H vs us Q I r h
  obtain ⟨a, b, bs, rfl, hs, hd, ha, q⟩ := h
  rw [Vals.ref1 r]
  have hdp := dps_all (K := X.K) (H := H) (b :: bs) fun c hc => (hd c hc).1
  have hz : X.A.units + 1 + PyData.depthAll ((b :: bs).map keyP) < cLine := by
    have := depth_all (b :: bs) fun c hc => (hd c hc).2
    omega
  obtain ⟨its, rv, hT, _⟩ := I.list hs
  obtain ⟨as, rd⟩ := Dp.readsAll I _ _ its hdp rv
  refine PySem.W.min_list_ix (vs := its.toArray) (x := keyP b) (xs := bs.map keyP) (I.ok.hd hc) hT.isList (by simpa using rd) ha hz fun v h' tk hv hk => ?_
  obtain ⟨f1, f2⟩ := PySem.W.argBest_fold ltP (V.non, D.non) b bs bs.length (Nat.le_refl _)
  rw [List.take_length] at f2
  have ef : (fun i j => PySem.W.dataLt ((keyP b :: bs.map keyP).getD i .none) ((keyP b :: bs.map keyP).getD j .none)) = fun i j => ltP ((b :: bs).getD i (V.non, D.non)) ((b :: bs).getD j (V.non, D.non)) := by
    have e : ∀ i, (keyP b :: bs.map keyP).getD i .none = keyP ((b :: bs).getD i (V.non, D.non)) := fun i => by
      have : keyP b :: bs.map keyP = (b :: bs).map keyP := rfl
      rw [this, List.getD_eq_getElem?_getD, List.getD_eq_getElem?_getD, List.getElem?_map]
      cases (b :: bs)[i]? <;> rfl
    funext i j
    unfold ltP
    rw [e, e]
  rw [List.length_map, ef] at hv
  generalize argBest (fun i j => ltP ((b :: bs).getD i (V.non, D.non)) ((b :: bs).getD j (V.non, D.non))) bs.length = n at hv f1 f2
  have hv2 : its[n]? = some v := by simpa using hv
  obtain ⟨x, hx, rx⟩ := vals_at rv hv2
  have ex : x = (bs.foldl (fun m y => if ltP y m then y else m) b).1 := by
    rw [← f2, List.getD_eq_getElem?_getD]
    rw [List.getElem?_map] at hx
    obtain ⟨c, hc, rfl⟩ := Option.map_eq_some_iff.mp hx
    rw [hc]; rfl
  exact ⟨x, H, I.kept hk, rx, by rw [ex]; exact q⟩
theorem fold_snd {xs : List D} : ∀ (bs : List (V × D)) (b : V × D), (∀ c ∈ b :: bs, ∀ e ∈ b :: bs, (cmpD c.2 e.2).isSome = true) → (bs.foldl (fun m y => if ltP y m then y else m) b).2 = (bs.map (·.2)).foldl (fun m y => if (cmpD y m == some .lt) = true then y else m) b.2 ∧ bs.foldl (fun m y => if ltP y m then y else m) b ∈ b :: bs
  | [], b, _ => ⟨rfl, List.mem_cons_self ..⟩
  | c :: bs, b, h => by
    have e : ltP c b = (cmpD c.2 b.2 == some .lt) := by
      obtain ⟨o, ho⟩ := Option.isSome_iff_exists.mp (h c (by simp) b (by simp))
      obtain ⟨_, _, h3, _⟩ := lt_toP c.2 b.2 o ho
      unfold ltP keyP
      rw [h3, ho]
      cases o <;> rfl
    rw [List.foldl_cons, List.map_cons, List.foldl_cons, e]
    by_cases q : (cmpD c.2 b.2 == some Ordering.lt) = true
    · rw [if_pos q, if_pos q]
      obtain ⟨h1, h2⟩ := fold_snd (xs := xs) bs c fun x hx y hy => h x (List.mem_cons_of_mem _ hx) y (List.mem_cons_of_mem _ hy)
      exact ⟨h1, List.mem_cons_of_mem _ h2⟩
    · rw [if_neg q, if_neg q]
      have up : ∀ z ∈ b :: bs, z ∈ b :: c :: bs := fun z hz => by
        rcases List.mem_cons.mp hz with rfl | hz
        · simp
        · simp [hz]
      obtain ⟨h1, h2⟩ := fold_snd (xs := xs) bs b fun x hx y hy => h x (up x hx) y (up y hy)
      refine ⟨h1, ?_⟩
      rcases List.mem_cons.mp h2 with h2 | h2
      · rw [h2]; simp
      · exact List.mem_cons_of_mem _ (List.mem_cons_of_mem _ h2)
theorem minT_in {F : Addr → Prop} {H : Hp} {v : V} {d : D} {σ : VS} {Q : VK} (hK : X.K = G.K) (r : RepW G F H v d) (dom : ∀ a, F a → ∃ o, H a = some o) (h : Post G F W σ H Q (minT d)) : rMinT X.K [v] H Q := by
  cases d with
  | lst xs =>
    cases xs with
    | nil => exact False.elim h
    | cons x xs =>
    replace h : Post G F W σ H Q (if srtOk (x :: xs) = true then .ok (xs.foldl (fun m y => if (cmpD y m == some .lt) = true then y else m) x) else .bad) := h
    obtain ⟨c, h⟩ := if_ok (P := Post G F W σ H Q) h (fun z => z)
    unfold srtOk at c
    rw [Bool.and_eq_true, Bool.and_eq_true] at c
    obtain ⟨c1, c2, c3⟩ := c
    obtain ⟨a, vs, e, s1, l1, q1⟩ := r.lst
    subst e
    obtain ⟨z1, z2, z3⟩ := repL_zip q1
    have hc : ∀ y ∈ x :: xs, ∀ z ∈ x :: xs, (cmpD y z).isSome = true := fun y hy z hz => List.all_eq_true.mp (List.all_eq_true.mp c1 y hy) z hz
    have dl : ∀ y ∈ x :: xs, datN 59 y = true := by
      have : ∀ ys : List D, datL 59 ys = true → ∀ x ∈ ys, datN 59 x = true := fun ys => by
        induction ys with
        | nil => intro _ x hx; cases hx
        | cons y ys ih =>
          intro hy x hx
          have hy' : datN 59 y = true ∧ datL 59 ys = true := by simpa [datL] using hy
          rcases List.mem_cons.mp hx with rfl | hx
          · exact hy'.1
          · exact ih hy'.2 x hx
      exact this (x :: xs) c2
    revert z1 z2 z3
    generalize vs.zip (x :: xs) = bb
    intro z1 z2 z3
    cases bb with
    | nil => cases z2
    | cons b bs =>
      have mem : ∀ c ∈ b :: bs, c.2 ∈ x :: xs := fun c hc => by rw [← z2]; exact List.mem_map.mpr ⟨c, hc, rfl⟩
      obtain ⟨g1, g2⟩ := fold_snd (xs := xs) bs b fun c h1 e h2 => hc _ (mem c h1) _ (mem e h2)
      have hz2 : b.2 = x ∧ bs.map (·.2) = xs := List.cons.inj z2
      rw [hz2.1, hz2.2] at g1
      refine ⟨a, b, bs, rfl, .inl (.inl (by rw [z1]; exact s1)), fun c hc' => ?_, ⟨fun p hp q hq => ?_, fun p hp => ?_⟩, ?_⟩
      · obtain ⟨k1, _, k3⟩ := Rep.dp (H := H) c.2 59 c.1 (Rep.same sol_le c.2 c.1 (z3 c hc')) (dl _ (mem c hc'))
        exact ⟨by rw [hK]; exact k1, by show (toP c.2).depth ≤ 60; omega⟩
      · obtain ⟨c, hc', rfl⟩ := List.mem_map.mp hp
        obtain ⟨e, he, rfl⟩ := List.mem_map.mp hq
        obtain ⟨o, ho⟩ := Option.isSome_iff_exists.mp (hc _ (mem c hc') _ (mem e he))
        exact (lt_toP _ _ o ho).1
      · obtain ⟨c, hc', rfl⟩ := List.mem_map.mp hp
        obtain ⟨o, ho⟩ := Option.isSome_iff_exists.mp (hc _ (mem c hc') _ (mem c hc'))
        exact (lt_toP _ _ o ho).2.1
      · exact Post.ok h (by rw [← g1]; exact z3 _ g2)
  | _ => exact False.elim h
theorem min_one' (d : D) : biD .min [d] = minD d := by cases d <;> rfl
theorem bi_minL (hc : X.calm = true) (hu : X.A.units + 65 < cLine) (hK : X.K = G.K) : CallR X (.builtin "min") (rsD G W (biD .min)) := CallR.by fun vs H Q ⟨F, ds, σ, r, dom, h⟩ => by
  match ds, r, h with
  | [d], r, h =>
    obtain ⟨v, e, r1⟩ := r.one
    subst e
    rw [min_one'] at h
    unfold minD at h
    split at h
    · rename_i i is hi
      have h2 : Post G F W σ H Q (bstI min d) := by
        unfold bstI
        rw [hi]; exact h
      exact ⟨_, call_min1 hc hu, bst_in hK r1 h2⟩
    · exact False.elim h
    · exact ⟨_, call_minT hc hu, minT_in hK r1 dom h⟩
  | [d, d'], r, h =>
    obtain ⟨v, u, e, r1, r2⟩ := r.two
    subst e
    cases d <;> try exact (show False from h).elim
    cases d' <;> try exact (show False from h).elim
    rename_i i j
    have e1 := r1.int
    have e2 := r2.int
    subst e1 e2
    exact ⟨_, call_min2 hc, i, j, rfl, Post.ok (d := .int (if j < i then j else i)) h (.int _)⟩
  | [], r, h => exact (show False from h).elim
  | a :: b :: _ :: _, r, h => exact (show False from (by cases a <;> cases b <;> exact h)).elim
end
end Dk

/-! DkD: the check that an expression of the tree is one of the small language's; it does what the evaluator says. -/
namespace Dk
open PySem PySem.Spec PyProof.Rows L2
/-! ### views -/
def vName : Expr → Option (Str × Pos) | .Name x p => some (x, p) | _ => none
def vConst : Expr → Option (Const × Nat × Pos) | .Constant c k p => some (c, k, p) | _ => none
def vBin : Expr → Option (Expr × Operator × Expr × Pos) | .BinOp a o b p => some (a, o, b, p) | _ => none
def vUn : Expr → Option (UnaryOp × Expr × Pos) | .UnaryOp o a p => some (o, a, p) | _ => none
def vCmp : Expr → Option (Expr × List CmpOp × List Expr × Pos) | .Compare a o b p => some (a, o, b, p) | _ => none
def vBool : Expr → Option (BoolOp × List Expr × Pos) | .BoolOp o a p => some (o, a, p) | _ => none
def vIf : Expr → Option (Expr × Expr × Expr × Pos) | .IfExp c a b p => some (c, a, b, p) | _ => none
def vTup : Expr → Option (List Expr × Nat × Pos) | .Tuple a k p => some (a, k, p) | _ => none
def vLst : Expr → Option (List Expr × Pos) | .List a p => some (a, p) | _ => none
def vSub : Expr → Option (Expr × Expr × Pos) | .Subscript a b p => some (a, b, p) | _ => none
def vSlc : Expr → Option (Option Expr × Option Expr × Option Expr × Pos) | .Slice a b c p => some (a, b, c, p) | _ => none
def vCall : Expr → Option (Expr × List Expr × List Keyword × Pos) | .Call f a k p => some (f, a, k, p) | _ => none
def vAttr : Expr → Option (Expr × Str × Pos) | .Attribute a n p => some (a, n, p) | _ => none
def vLc : Expr → Option (Expr × List Comprehension × Scope × Pos) | .ListComp a g s p => some (a, g, s, p) | _ => none
def vFn : Expr → Option (Str × Pos × List Expr × Pos) | .Call (.Name x p) a [] q => some (x, p, a, q) | _ => none
def vMe : Expr → Option (Expr × Str × Pos × List Expr × Pos) | .Call (.Attribute o n p) a [] q => some (o, n, p, a, q) | _ => none
section
variable {e : Expr}
theorem vFn_eq {x p a q} (h : vFn e = some (x, p, a, q)) : e = .Call (.Name x p) a [] q := by
  unfold vFn at h
  split at h
  · cases h; rfl
  · cases h
theorem vMe_eq {o n p a q} (h : vMe e = some (o, n, p, a, q)) : e = .Call (.Attribute o n p) a [] q := by
  unfold vMe at h
  split at h
  · cases h; rfl
  · cases h
theorem vName_eq {x p} (h : vName e = some (x, p)) : e = .Name x p := by cases e <;> cases h; rfl
theorem vConst_eq {c k p} (h : vConst e = some (c, k, p)) : e = .Constant c k p := by cases e <;> cases h; rfl
theorem vBin_eq {a o b p} (h : vBin e = some (a, o, b, p)) : e = .BinOp a o b p := by cases e <;> cases h; rfl
theorem vUn_eq {o a p} (h : vUn e = some (o, a, p)) : e = .UnaryOp o a p := by cases e <;> cases h; rfl
theorem vCmp_eq {a o b p} (h : vCmp e = some (a, o, b, p)) : e = .Compare a o b p := by cases e <;> cases h; rfl
theorem vBool_eq {o a p} (h : vBool e = some (o, a, p)) : e = .BoolOp o a p := by cases e <;> cases h; rfl
theorem vIf_eq {c a b p} (h : vIf e = some (c, a, b, p)) : e = .IfExp c a b p := by cases e <;> cases h; rfl
theorem vTup_eq {a k p} (h : vTup e = some (a, k, p)) : e = .Tuple a k p := by cases e <;> cases h; rfl
theorem vLst_eq {a p} (h : vLst e = some (a, p)) : e = .List a p := by cases e <;> cases h; rfl
theorem vSub_eq {a b p} (h : vSub e = some (a, b, p)) : e = .Subscript a b p := by cases e <;> cases h; rfl
theorem vSlc_eq {a b c p} (h : vSlc e = some (a, b, c, p)) : e = .Slice a b c p := by cases e <;> cases h; rfl
theorem vCall_eq {f a k p} (h : vCall e = some (f, a, k, p)) : e = .Call f a k p := by cases e <;> cases h; rfl
theorem vAttr_eq {a n p} (h : vAttr e = some (a, n, p)) : e = .Attribute a n p := by cases e <;> cases h; rfl
theorem vLc_eq {a g s p} (h : vLc e = some (a, g, s, p)) : e = .ListComp a g s p := by cases e <;> cases h; rfl
end
/-! ### shapes -/
def notStar : Expr → Bool | .Starred _ _ => false | _ => true
theorem star_ok {e : Expr} {es : List Expr} {env : Env} (h : notStar e = true) : starEach (e :: es) env = (false, eval e env) :: starEach es env := by
  cases e <;> first | rfl | cases h
theorem star_all : ∀ {es : List Expr} {env : Env} (pos : Pos), es.all notStar = true → (backTo pos (starEach es env)).any (·.1) = false
  | [], _, _, _ => rfl
  | e :: es, env, pos, h => by
    have h2 : notStar e = true ∧ es.all notStar = true := by simpa using h
    rw [star_ok h2.1]
    show (false || (backTo pos (starEach es env)).any (·.1)) = false
    rw [star_all pos h2.2]
    rfl
def plainE : Expr → Bool | .Slice _ _ none _ => false | _ => true
theorem plain_ok {e : Expr} (h : plainE e = true) : PlainIx e := by
  intro o i
  cases e <;> first | rfl | skip
  rename_i lo hi st p
  cases st with
  | none => cases h
  | some s => rfl
def baseE : Expr → Bool | .Call _ [] _ _ => false | _ => true
theorem base_ok {e : Expr} {n : Str} {env : Env} {w : Sem Value} (h : baseE e = true) : attributeBase e n env w = w := by
  cases e <;> first
    | rfl
    | skip
  rename_i f as ks p
  cases as with
  | nil => cases h
  | cons a as => cases f <;> rfl
def noSet : Expr → Bool | .Set _ _ _ => false | _ => true
theorem marks_ok {o : CmpOp} {e : Expr} (h : noSet e = true) : behindInMarks o e = false := by
  cases e <;> first | rfl | cases h
theorem lastMarks_ok {o o' : CmpOp} {b e : Expr} (h : noSet e = true) : lastMarks [o, o'] [b, e] = false := by
  show behindInMarks o' e = false
  exact marks_ok h
theorem folded_ok {e : Expr} {env : Env} (h : noSet e = true) : ∀ x, foldedSetIterable e env x = pure x := by
  intro x
  cases e <;> first | rfl | cases h
/-- a plain one: what a truth is asked of by its value -/
def valE : Expr → Bool
  | .BoolOp _ _ _ => false
  | .UnaryOp .Not _ _ => false
  | .Compare _ _ _ _ => false
  | .IfExp _ _ _ _ => false
  | _ => true
theorem val_ok {e : Expr} {env : Env} (h : valE e = true) : ∀ whole, isTrue e env whole = (do let v ← whole; standAt e.pos; holding [v] (truthy v)) := by
  intro whole
  cases e <;> first | rfl | (cases h; done) | skip
  rename_i o a p
  cases o <;> first | rfl | cases h
def noLc : Expr → Bool | .ListComp _ _ _ _ => false | .SetComp _ _ _ _ => false | .DictComp _ _ _ _ _ => false | _ => true
theorem swaps_ok {e : Expr} {t : Option Expr} {l : Nat} {env : Env} (h : noLc e = true) : swapsWith e t l env = pure false := by
  cases e <;> first | rfl | cases h
def opEq : BOp → Operator → Bool
  | .add, .Add => true | .sub, .Sub => true | .mul, .Mult => true | .fdiv, .FloorDiv => true | .mod, .Mod => true | .pow, .Pow => true | _, _ => false
theorem opEq_ok {o : BOp} {p : Operator} (h : opEq o p = true) : p = opOf o := by cases o <;> cases p <;> first | rfl | cases h
def cEq : COp → CmpOp → Bool
  | .eq, .Eq => true | .ne, .NotEq => true | .lt, .Lt => true | .le, .LtE => true | .gt, .Gt => true | .ge, .GtE => true | .isin, .In => true | .notin, .NotIn => true | .is, .Is => true | .isnt, .IsNot => true | _, _ => false
theorem cEq_ok {o : COp} {p : CmpOp} (h : cEq o p = true) : p = cOf o := by cases o <;> cases p <;> first | rfl | cases h
def litOk : D → Const → Bool
  | .non, .none => true
  | .bl a, .bool b => a == b
  | .int a, .int b => a == b
  | .str s, .str x => x.cps.toList == s && decide (s.length ≤ lim) && s.all fun c => decide (c < 1114112)
  | _, _ => false
def biS : Bi → Str
  | .len => "len" | .sum => "sum" | .all => "all" | .tuple => "tuple" | .list => "list" | .int => "int" | .str => "str" | .abs => "abs" | .min => "min" | .max => "max" | .sorted => "sorted"
def biOk : Bi → Bool
  | .len => true | .sum => true | .all => true | .tuple => true | .list => true | .int => true | .abs => true | .min => true | .max => true | .str => true | .sorted => true
def bltS : List Str := ["len", "sum", "all", "tuple", "list", "int", "str", "abs", "min", "max", "sorted", "isinstance", "bool", "range", "enumerate", "zip", "ValueError"]
/-! ### the names in sight -/
structure Sc where
  N : List Str
  sc : Scope
  fn : Str → Bool
structure Gt where
  fns : List Str
  consts : List Str
  errs : List Str
def dunder (x : Str) : Bool := x == ("__debug__" : Str) || x == ("__classdict__" : Str) || x == ("__name__" : Str)
def visB (sc : Scope) (x : Str) : Bool := match sc.names.lookup x with | some .local => true | some .cell => true | some .free => true | _ => false
def locB (sc : Scope) (x : Str) : Bool := match sc.names.lookup x with | some .local => true | some .cell => true | _ => false
def Sc.slot (S : Sc) (i : Nat) (x : Str) : Bool := (S.N[i]? == some x) && visB S.sc x && !dunder x
def Sc.loc (S : Sc) (i : Nat) (x : Str) : Bool := (S.N[i]? == some x) && locB S.sc x && (S.fn x || S.sc.names.lookup x == some .local)
def Sc.gl (S : Sc) (x : Str) : Bool := (S.sc.names.lookup x == some .globalImplicit) && !dunder x
def tgE (S : Sc) : Tg → Expr → Bool
  | .one i, e => (match vName e with | some (x, _) => S.loc i x | none => false)
  | .many is, e => (match vTup e with | some (es, _, _) => namesB S is es | none => false)
where namesB (S : Sc) : List Nat → List Expr → Bool
  | [], [] => true
  | i :: is, e :: es => (match vName e with | some (x, _) => S.loc i x && namesB S is es | none => false)
  | _, _ => false
/-- a block's scope, its own names' slots -/
def blkOkB (S : Sc) (scope : Scope) (own : List Nat) : Bool :=
  (scope.kind == .function) && scope.names.all (fun y => scope.names.lookup y.1 == some y.2) &&
  scope.names.all (fun y => !(y.2 == .free) || (S.sc.names.lookup y.1 == some .cell || S.sc.names.lookup y.1 == some .free)) &&
  scope.names.all (fun y => !(y.2 == .local || y.2 == .cell) || own.any (fun i => S.N[i]? == some y.1) || !S.N.contains y.1) &&
  own.all (fun i => decide (i < S.N.length))
def Sc.blk (S : Sc) (scope : Scope) : Sc := ⟨S.N, relS scope S.sc, fun x => scope.names.lookup x == some .cell⟩
def tgsIn (tg : Tg) (own : List Nat) : Bool := (tgs tg).all fun i => own.contains i
def isLitT : Ex → Bool | .lit (.bl true) => true | _ => false
def vTwo : Expr → Option (Nat × Pos)
  | .Constant (.int i) k p => if i = 2 then some (k, p) else none
  | _ => none
theorem vTwo_eq {e k p} (h : vTwo e = some (k, p)) : e = .Constant (.int 2) k p := by
  unfold vTwo at h
  split at h
  · split at h
    · rename_i q
      subst q
      cases h; rfl
    · cases h
  · cases h
def meN : Me → Str → Nat → Bool
  | .upper, n, 0 => n == ("upper" : Str)
  | .join, n, 1 => n == ("join" : Str)
  | .index, n, 1 => n == ("index" : Str)
  | .count, n, 1 => n == ("count" : Str)
  | .strip, n, 1 => n == ("strip" : Str)
  | .lstrip, n, 1 => n == ("lstrip" : Str)
  | .rstrip, n, 1 => n == ("rstrip" : Str)
  | .indexT, n, 1 => n == ("index" : Str)
  | .indexL, n, 1 => n == ("index" : Str)
  | .countL, n, 1 => n == ("count" : Str)
  | _, _, _ => false
def isRg : It → Bool
  | .rng1 _ => true
  | .rng2 _ _ => true
  | .rng3 _ _ _ => true
  | _ => false
/-- tuple.index asks a constant -/
def meG (m : Me) (a : Ex) : Bool := match m, a with
  | .indexT, .glob _ => true
  | .indexT, _ => false
  | _, _ => true
def tyE (S : Sc) : Ty → Expr → Bool
  | .intstr, y => (match vTup y with | some ([t1, t2], _, _) => (match vName t1 with | some (n1, _) => (match vName t2 with | some (n2, _) => S.gl n1 && S.gl n2 && (n1 == ("int" : Str)) && (n2 == ("str" : Str)) | none => false) | none => false) | _ => false)
  | t, y => (match vName y with | some (n1, _) => S.gl n1 && (n1 == (tyS t : Str)) | none => false)
def chkOf (m : Ex) (o : Option Expr) (f : Expr → Bool) : Bool := match o with
  | none => isO m
  | some e => !isO m && f e
/-- a written text stands between what is added: a token is given out -/
def tokK (e : Expr) : Bool := match vConst e with
  | some (.str _, _, _) => true
  | _ => false
def tokB (e : Expr) : Bool := match vBin e with
  | some (l, _, _, _) => (match vBin l with
    | some (_, _, q, _) => (match vConst q with
      | some (.str _, _, _) => true
      | _ => false)
    | none => false)
  | none => false
def tokE (e : Expr) : Bool := tokK e || tokB e
def tokA : List Expr → Bool
  | [e] => notStar e && tokE e
  | _ => false
/-- a def that wants a token to be out: its number is behind those of all -/
def hotB (g : Gt) (f : Nat) (x : Str) (xs : List Expr) : Bool := decide (g.fns.length ≤ f) && (g.fns[f - g.fns.length]? == some x && tokA xs)
mutual
def chkE (g : Gt) (S : Sc) : Ex → Expr → Bool
  | .omit, _ => false
  | .slot i, e => (match vName e with | some (x, _) => S.slot i x | none => false)
  | .lit d, e => (match vConst e with | some (c, _, _) => litOk d c | none => false)
  | .glob k, e => (match vName e with | some (x, _) => S.gl x && g.consts[k]? == some x | none => false)
  | .fnv k, e => (match vName e with | some (x, _) => S.gl x && g.fns[k]? == some x | none => false)
  | .bin op a b, e => (match vBin e with | some (x, o, y, _) => opEq op o && chkE g S a x && chkE g S b y | none => false)
  | .neg a, e => (match vUn e with | some (.USub, x, _) => chkE g S a x | _ => false)
  | .cmp op a b, e => (match vCmp e with | some (x, [o], [y], _) => cEq op o && noSet y && chkE g S a x && chkE g S b y | _ => false)
  | .inR a b, e => (match vCmp e with | some (x, [.In], [y], _) => (match vFn y with | some (n, _, [z], _) => S.gl n && ((n == ("range" : Str)) && (notStar z && (chkE g S a x && chkE g S b z))) | _ => false) | _ => false)
  | .chain o o' a b c, e => (match vCmp e with | some (x, [p, p'], [y, z], _) => cEq o p && cEq o' p' && noSet z && chkE g S a x && chkE g S b y && chkE g S c z | _ => false)
  | .and_ a b, e => (match vBool e with | some (.And, [x, y], _) => chkE g S a x && chkE g S b y | some (.And, x :: y :: z :: r, p) => chkE g S a x && chkE g S b (.BoolOp .And (y :: z :: r) p) | _ => false)
  | .or_ a b, e => (match vBool e with | some (.Or, [x, y], _) => chkE g S a x && chkE g S b y | some (.Or, x :: y :: z :: r, p) => chkE g S a x && chkE g S b (.BoolOp .Or (y :: z :: r) p) | _ => false)
  | .not_ a, e => (match vUn e with | some (.Not, x, _) => chkE g S a x | _ => false)
  | .ife c a b, e => (match vIf e with | some (z, x, y, _) => chkE g S c z && chkE g S a x && chkE g S b y | none => false)
  | .tup es, e => (match vTup e with | some (xs, _, _) => decide (xs.length ≤ 1000) && chkEs g S es xs | none => false)
  | .lst es, e => (match vLst e with | some (xs, _) => decide (xs.length ≤ 1000) && chkEs g S es xs | none => false)
  | .ix a i, e => (match vSub e with | some (x, y, _) => plainE y && chkE g S a x && chkE g S i y | none => false)
  | .sl a lo hi, e => (match vSub e with | some (x, y, _) => (match vSlc y with | some (l, h, none, _) => chkE g S a x && chkOf lo l (chkE g S lo) && chkOf hi h (chkE g S hi) | _ => false) | none => false)
  | .sl2 a lo hi, e => (match vSub e with | some (x, y, _) => (match vSlc y with | some (l, h, some st, _) => (vTwo st).isSome && chkE g S a x && chkOf lo l (chkE g S lo) && chkOf hi h (chkE g S hi) | _ => false) | none => false)
  | .rev a, e => (match vSub e with | some (x, y, _) => (match vSlc y with | some (none, none, some z, _) => (match vUn z with | some (.USub, t, _) => (match vConst t with | some (.int 1, _, _) => chkE g S a x | _ => false) | _ => false) | _ => false) | none => false)
  | .call f es, e => (match vFn e with | some (x, _, xs, _) => S.gl x && (g.fns[f]? == some x || hotB g f x xs) && chkEs g S es xs | none => false)
  | .callS i es, e => (match vFn e with | some (x, _, x1 :: xs, _) => S.slot i x && chkEs g S es (x1 :: xs) | _ => false)
  | .bi b es, e => (match vFn e with | some (x, _, x1 :: xs, _) => biOk b && S.gl x && (x == biS b) && chkEs g S es (x1 :: xs) | _ => false)
  | .rngL it, e => (match vFn e with | some (n, _, [a], _) => S.gl n && ((n == ("list" : Str)) && (notStar a && (isRg it && chkI g S it a a))) | _ => false)
  | .me m a es, e => (match vMe e with | some (x, n, ap, xs, cp) => baseE x && (ap.endLine == cp.line) && (meN m n xs.length && meG m a) && chkE g S a x && chkEs g S es xs | none => false)
  | .isi a t, e => (match vFn e with | some (n, _, [x, y], _) => S.gl n && (n == ("isinstance" : Str)) && notStar x && chkE g S a x && tyE S t y | _ => false)
  | .comp elt tg it cond own, e => (match vLc e with | some (x, [⟨t, i, ifs, 0⟩], scope, _) => blkOkB S scope own && tgsIn tg own && noSet i && chkI g S it t i && tgE (S.blk scope) tg t && chkE g (S.blk scope) elt x && (match ifs with | [] => isLitT cond | [c] => chkE g (S.blk scope) cond c | _ => false) | _ => false)
def chkEs (g : Gt) (S : Sc) : Exs → List Expr → Bool
  | .nil, [] => true
  | .cons m ms, e :: es => notStar e && chkE g S m e && chkEs g S ms es
  | _, _ => false
def chkI (g : Gt) (S : Sc) : It → Expr → Expr → Bool
  | .val m, _, e => chkE g S m e
  | .rng1 a, _, e => (match vFn e with | some (n, _, [x], _) => S.gl n && (n == ("range" : Str)) && notStar x && chkE g S a x | _ => false)
  | .rng2 a b, _, e => (match vFn e with | some (n, _, [x, y], _) => S.gl n && (n == ("range" : Str)) && notStar x && notStar y && chkE g S a x && chkE g S b y | _ => false)
  | .rng3 a b c, _, e => (match vFn e with | some (n, _, [x, y, z], _) => S.gl n && (n == ("range" : Str)) && notStar x && notStar y && notStar z && chkE g S a x && chkE g S b y && chkE g S c z | _ => false)
  | .enum m, t, e => (vTup t).isSome && (match vFn e with | some (n, _, [x], _) => S.gl n && (n == ("enumerate" : Str)) && notStar x && chkE g S m x | _ => false)
  | .zip a b, t, e => (vTup t).isSome && (match vFn e with | some (n, _, [x, y], _) => S.gl n && (n == ("zip" : Str)) && notStar x && notStar y && chkE g S a x && chkE g S b y | _ => false)
end
end Dk

/-! DkO: what gives out a token; defs that want one to be out. -/
namespace Dk
open PySem PySem.Spec PyProof.Rows L2
/-- where it comes to a value, a token has been given out -/
def Strict {α : Type} (t : Sem α) : Prop := ∀ (M : Model) (Γ : PySem.Ctx) (Q : α → Pos → Shared → Prop) (E : Value → Pos → Shared → Prop) (p : Pos) (s : Shared), Sem.wp M Γ t Q E p s → Sem.wp M Γ t (fun a p' s' => s.toks + 1 ≤ s'.toks ∧ Q a p' s') E p s
theorem Strict.left {α β : Type} {t : Sem α} {f : α → Sem β} (h : Strict t) : Strict (t >>= f) := by
  intro M Γ Q E p s q
  rw [Sem.wp_bind'] at q ⊢
  exact Sem.wp_mono M Γ t (fun a p' s' z => Sem.wp_mono M Γ (f a) (fun _ _ _ y => y) (fun _ _ _ y => y.2) p' s' (Sem.wp_toks M Γ (s.toks + 1) (f a) Q E p' s' z.1 z.2)) (fun _ _ _ z => z) p s (h M Γ _ E p s q)
theorem Strict.right {α β : Type} {t : Sem α} {f : α → Sem β} (h : ∀ a, Strict (f a)) : Strict (t >>= f) := by
  intro M Γ Q E p s q
  rw [Sem.wp_bind'] at q ⊢
  exact Sem.wp_mono M Γ t (fun a p' s' z => Sem.wp_mono M Γ (f a) (fun _ _ _ y => ⟨Nat.le_trans (Nat.succ_le_succ z.1) y.1, y.2⟩) (fun _ _ _ y => y) p' s' (h a M Γ Q E p' s' z.2)) (fun _ _ _ z => z.2) p s (Sem.wp_toks M Γ s.toks t _ E p s (Nat.le_refl _) q)
theorem Strict.hold {α : Type} {t : Sem α} {vs : List Value} (h : Strict t) : Strict (holding vs t) := by
  intro M Γ Q E p s q
  rw [Sem.wp_holding] at q ⊢
  exact h M Γ Q E p s q
theorem Strict.any {α : Type} {t : Sem α} {M : Model} {A : Around} {Q : α → Shared → Prop} {E : Value → Shared → Prop} {s : Shared} (h : Strict t) (q : wpAny M A t Q E s) : wpAny M A t (fun a s' => 1 ≤ s'.toks ∧ Q a s') E s :=
  fun Γ p hΓ => Sem.wp_mono M Γ t (fun _ _ _ z => ⟨Nat.le_trans (Nat.succ_le_succ (Nat.zero_le _)) z.1, z.2⟩) (fun _ _ _ z => z) p s (h M Γ _ _ p s (q Γ p hΓ))
theorem strict_str {x : Str} {k : Nat} {p : Pos} {env : Env} : Strict (eval (.Constant (.str x) k p) env) := by
  intro M Γ Q E p s q
  exact ⟨Nat.le_refl _, q⟩
theorem strict_bin {a b : Expr} {op : Operator} {p : Pos} {env : Env} (h : Strict (eval a env) ∨ Strict (eval b env)) : Strict (eval (.BinOp a op b p) env) := by
  rw [eval_BinOp]
  rcases h with h | h
  · exact h.left
  · exact Strict.right fun _ => Strict.left h.hold
def vConstS (e : Expr) : Bool := match vConst e with | some (.str _, _, _) => true | _ => false
theorem strict_tok {e : Expr} {env : Env} (h : tokE e = true) : Strict (eval e env) := by
  unfold tokE at h
  rw [Bool.or_eq_true] at h
  rcases h with h | h
  · unfold tokK at h
    split at h
    · rename_i x k p hv
      obtain rfl := vConst_eq hv
      exact strict_str
    · cases h
  unfold tokB at h
  split at h
  · rename_i l o b p hv
    obtain rfl := vBin_eq hv
    split at h
    · rename_i a o2 q p2 hv2
      obtain rfl := vBin_eq hv2
      split at h
      · rename_i x k p3 hv3
        obtain rfl := vConst_eq hv3
        exact strict_bin (.inl (strict_bin (.inr strict_str)))
      · cases h
    · cases h
  · cases h
theorem strict_one {e : Expr} {env : Env} {pos : Pos} (hs : notStar e = true) (h : Strict (eval e env)) : Strict (spliced (backTo pos (starEach [e] env))) := by
  have e2 : starEach [e] env = (false, eval e env) :: starEach [] env := star_ok hs
  rw [e2]
  show Strict (spliced ((false, eval e env) :: backTo pos (starEach [] env)))
  rw [spliced]
  exact h.left
/-- a def's promise, a token out when it is called -/
structure FnT (P : Program) (w : World) (K : PySem.W.Frag) (mg : Str → Option Value) (base : Heap) (k : Nat) (f : Addr) (fd : FuncData) (ps : List Str) (sp : Sp) : Prop where
  len : ∀ vs H Q E, sp vs H Q E → vs.length = ps.length
  run : ∀ (A : Around) (outer : List Env) (s : Shared) (H : Hp) (args : Args) (us : List Value) (vs : List V) (Q : VK) (E : XK), 1 ≤ s.toks → Room k A → Env0 P w K mg base A outer s H → BindsTo s fd args (ps.zip us) → Vals vs us → sp vs H Q E →
    codeAny (model P w) A (.call (.ref f) args) (CR (L2.CX P w) outer P w H s Q E) s
section
variable {X : L2.Cx} {G : Ge} {W : WX} {k np : Nat} {f fa : Addr} {fd : FuncData} {ps : List Str} {sp : Sp} {dvs : List V} {ds : List Value} {E : VS → XK} {x : Str} {p pos : Pos} {e : Expr}
theorem run_fnT {pins : List (Addr × Obj)} {σ : VS} {H : Hp} {s : Shared} {Q : VK} {us : List Value} {vs : List V} (F : FnT X.prog X.w X.K X.mg X.base k f fd ps sp) (hr : Room k X.A) (hb : Binds X.K fd ps ds) (hd : Vals dvs ds) (hx : PassesAt (L2.CX X.prog X.w) X σ (E σ)) (h0 : 1 ≤ s.toks)
    (I : Inv X pins σ H s) (r : Vals vs us) (h : sp (vs ++ dvs) H Q (E σ)) : wpAny (model X.prog X.w) X.A (call (.ref f) us) (EP X pins σ Q) X.xe s := by
  have r2 : Vals (vs ++ dvs) (us ++ ds) := r.append hd
  have hl : (us ++ ds).length = ps.length := by rw [← r2.length]; exact F.len _ _ _ _ h
  refine wpAny_call (codeAny_mono (F.run X.A X.stack s H ⟨us, []⟩ (us ++ ds) (vs ++ dvs) Q (E σ) h0 hr I.env0 (hb s us I.kIn hl) r2 h) fun r s' hq => ?_)
  cases r with
  | error e => exact hx pins H s e s' I hq
  | ok fl =>
    cases fl with
    | ret u => exact I.after hq
    | next => exact False.elim hq
    | brk => exact False.elim hq
    | cont => exact False.elim hq
theorem pe_callT {ms : En → Rs} {g : List D → R} (hn : ∀ ds, g ds = .bad ∨ ds.length = np) (hm : ∀ ds, noM (g ds)) (Fk : FnT X.prog X.w X.K X.mg X.base k fa fd ps (spD G np g)) (hr : Room k X.A) (hg : Gl X x) (hmg : X.mg x = some (.ref fa)) (hk : PySem.W.keepIn X.K (.ref fa) = true) (hb : Binds X.K fd ps []) (tk : Takes X W)
    (ha : PA X [e] (tAs G W ms)) (hs : notStar e = true) (ht : tokE e = true) (hdb : (x == ("__debug__" : Str)) = false) :
    PE X (.Call (.Name x p) [e] [] pos) (tE G W fun ρ => (ms ρ).bnd g) := by
  refine ⟨fun pins s σ H Q I h => ?_⟩
  have h2 := tAs.call (fun _ ds _ => hn ds) hm h
  refine wpAny_Call_Name_kw (ld_glob I hg hmg ?_ hdb)
  refine PySem.W.callWith_K (h₀ := X.base) I.ok.mod.kin hk (thn ((strict_one (pos := pos) hs (strict_tok ht)).any (ha.run pos pins s σ H _ I h2)) fun us s2 ⟨h0, vs, H2, I2, r, q⟩ => ⟨I2.kIn, ?_⟩) (star_ok hs) rfl
  exact run_fnT (E := WE W) Fk hr hb .nil (passAt tk σ) h0 I2 r q
end
end Dk

/-! DkE: what passes the check does what the evaluator says. -/
namespace Dk
open PySem PySem.Spec PyProof.Rows L2
/-- a def of the text as a callee -/
structure FnD (G : Ge) (C : Cal) (X : L2.Cx) (k : Nat) (fa : Addr) : Prop where
  ex : ∃ (lvl : Nat) (fd : FuncData) (ps : List Str) (np : Nat), FnOk X.prog X.w X.K X.mg X.base (L2.CX X.prog X.w) lvl fa fd ps (spD G np (C.call k)) ∧ Room lvl X.A ∧ PySem.W.keepIn X.K (.ref fa) = true ∧ Binds X.K fd ps [] ∧ (∀ ds, C.call k ds = .bad ∨ ds.length = np) ∧ ∀ ds, noM (C.call k ds)
/-- the same of a def that wants a token to be out -/
structure FnDT (G : Ge) (C : Cal) (X : L2.Cx) (j : Nat) (fa : Addr) : Prop where
  ex : ∃ (lvl : Nat) (fd : FuncData) (ps : List Str) (np : Nat), FnT X.prog X.w X.K X.mg X.base lvl fa fd ps (spD G np (C.call j)) ∧ Room lvl X.A ∧ PySem.W.keepIn X.K (.ref fa) = true ∧ Binds X.K fd ps [] ∧ (∀ ds, C.call j ds = .bad ∨ ds.length = np) ∧ ∀ ds, noM (C.call j ds)
/-- a def that is handed the error that is handled, and tells a word of it -/
structure FnW (P : Program) (w : World) (K : PySem.W.Frag) (mg : Str → Option Value) (base : Heap) (D0 : Addr) (str : List Nat) (f : Addr) (fd : FuncData) (e : Str) : Prop where
  run : ∀ (A : Around) (outer : List Env) (s : Shared) (H : Hp) (args : Args) (a : Addr) (oe : Obj) (Q : VK), A.depth < recursionLimit → A.units + 100 < cLine → L2H.PinOk outer H s (a, oe) → Env0 P w K mg base A outer s H → BindsTo s fd args [(e, .ref a)] →
    Zc (.ref D0) none oe → (∃ vs, oe.data = .fields vs) → (∀ H', Same H H' → Q (.str (sV str)) H') →
    codeAny (model P w) A (.call (.ref f) args) (fun r s' => match r with
      | .ok (.ret u) => CE outer P w H s Q u s'
      | _ => False) s
/-- what the classes of errors say of isinstance -/
structure XFacts (g : Gt) (ea : Nat → Addr) (sub : Nat → Nat → Option Bool) (K : PySem.W.Frag) : Prop where
  ec : ∀ k x, g.errs[k]? = some x → ExcC K (ea k)
  ki : ∀ k l b, sub k l = some b → ∃ x, g.errs[k]? = some x ∧ PySem.W.kitOne K (.ref (ea k)) (.ref (ea l)) = some b
  kv : ∀ k x, g.errs[k]? = some x → PySem.W.kitOne K (.ref (ea k)) (.type "ValueError") = some true
structure CtxE (g : Gt) (G : Ge) (C : Cal) (W : WX) (X : L2.Cx) (S : Sc) : Prop where
  hN : X.N = S.N
  hsc : X.env.scope = S.sc
  hfn : X.fn = S.fn
  nd : X.N.Nodup
  hK : X.K = G.K
  calm : X.calm = true
  tk : Takes X W
  un : X.A.units + 65 < cLine
  bi : ∀ x ∈ bltS, X.mg x = none
  cn : ∀ k x, g.consts[k]? = some x → ∃ d v u, C.glob k = some d ∧ X.mg x = some u ∧ RelV v u ∧ ∀ H, Rep G H v d
  fns : ∀ k x, g.fns[k]? = some x → ∃ fa, G.fa k = some fa ∧ X.mg x = some (.ref fa)
  call : ∀ k fa, G.fa k = some fa → FnD G C X k fa
  er : ∀ k x, g.errs[k]? = some x → X.mg x = some (.ref (G.ea k)) ∧ PySem.W.excIn X.K (G.ea k) He.veBase "ValueError.__new__" = true ∧ PySem.W.keepIn X.K (.ref (G.ea k)) = true ∧ Raises X (.ref (G.ea k))
  sb : ∀ k l b, C.sub k l = some b → PySem.W.exmOne X.K (.ref (G.ea k)) (.ref (G.ea l)) = some b
  sx : XFacts g G.ea C.sub X.K
  ct : ∀ k x ds, g.consts[k]? = some x → C.glob k = some (.tup ds) → ∃ a o, X.mg x = some (.ref a) ∧ X.K.lookup a = some o ∧ o.cls = .type "tuple" ∧ o.dict = none
  wk : ∀ k m s, C.word k m = some s → SOk s
  wd : ∀ k x m y s, g.fns[k]? = some x → g.errs[m]? = some y → C.word k m = some s → ∃ fa fd e, X.mg x = some (.ref fa) ∧ FnW X.prog X.w X.K X.mg X.base (G.ea m) s fa fd e ∧ PySem.W.keepIn X.K (.ref fa) = true ∧ Binds X.K fd [e] [] ∧ X.A.depth < recursionLimit ∧ X.A.units + 100 < cLine
  ht : ∀ k fa, G.fa k = some fa → FnDT G C X (g.fns.length + k) fa
def OkE (X : L2.Cx) (G : Ge) (W : WX) (e : Expr) (m : En → R) : Prop := PE X e (tE G W m) ∧ PT X e (tT G W m) ∧ ∀ o v p, e = .BoolOp o v p → PW X e (tT G W m)
section
variable {g : Gt} {G : Ge} {C : Cal} {W : WX} {X : L2.Cx} {S : Sc} {i : Nat} {x : Str} {p : Pos} {e : Expr} {m : En → R}
theorem OkE.val (hK : X.K = G.K) (h : PE X e (tE G W m)) (hv : valE e = true) : OkE X G W e m := ⟨h, pt_tru hK h (val_ok hv), fun o v p e' => by subst e'; cases hv⟩
theorem slot_in (c : CtxE g G C W X S) (h : S.slot i x = true) : X.N[i]? = some x ∧ Vis X.env.scope x ∧ (x == ("__debug__" : Str)) = false ∧ (x == ("__classdict__" : Str)) = false := by
  unfold Sc.slot at h
  rw [Bool.and_eq_true, Bool.and_eq_true, beq_iff_eq] at h
  obtain ⟨⟨h1, h2⟩, h3⟩ := h
  rw [c.hN, c.hsc]
  refine ⟨h1, ?_, ?_, ?_⟩
  · unfold visB at h2
    unfold Vis
    split at h2
    · rename_i q; exact .inl q
    · rename_i q; exact .inr (.inl q)
    · rename_i q; exact .inr (.inr q)
    · cases h2
  · unfold dunder at h3
    cases q : (x == ("__debug__" : Str)) with
    | false => rfl
    | true => rw [q] at h3; cases h3
  · unfold dunder at h3
    cases q : (x == ("__classdict__" : Str)) with
    | false => rfl
    | true => rw [q] at h3; simp at h3
theorem gl_in (c : CtxE g G C W X S) (h : S.gl x = true) : Gl X x ∧ (x == ("__debug__" : Str)) = false ∧ x ≠ ("__name__" : Str) := by
  unfold Sc.gl at h
  rw [Bool.and_eq_true, beq_iff_eq] at h
  obtain ⟨h1, h3⟩ := h
  refine ⟨?_, ?_, ?_⟩
  · show X.env.scope.names.lookup x = _
    rw [c.hsc]; exact h1
  · unfold dunder at h3
    cases q : (x == ("__debug__" : Str)) with
    | false => rfl
    | true => rw [q] at h3; cases h3
  · intro q
    subst q
    unfold dunder at h3
    rw [show (("__name__" : Str) == ("__name__" : Str)) = true from beq_self_eq_true _] at h3
    simp at h3
theorem loc_in {S : Sc} {X : L2.Cx} (hN : X.N = S.N) (hsc : X.env.scope = S.sc) (hfn : X.fn = S.fn) (h : S.loc i x = true) : X.N[i]? = some x ∧ L2.Loc X.env.scope x ∧ (X.fn x = true ∨ X.env.scope.names.lookup x = some .local) := by
  unfold Sc.loc at h
  rw [Bool.and_eq_true, Bool.and_eq_true, beq_iff_eq, Bool.or_eq_true, beq_iff_eq] at h
  obtain ⟨⟨h1, h2⟩, h3⟩ := h
  rw [hN, hsc, hfn]
  refine ⟨h1, ?_, h3⟩
  unfold locB at h2
  unfold L2.Loc
  split at h2
  · rename_i q; exact .inl q
  · rename_i q; exact .inr q
  · cases h2
theorem pe_slotD (h1 : X.N[i]? = some x) (h2 : Vis X.env.scope x) (h3 : (x == ("__debug__" : Str)) = false) (h4 : (x == ("__classdict__" : Str)) = false) : PE X (.Name x p) (tE G W fun ρ => getS ρ i) := PE.imp (pe_var h1 h2 h3 h4) fun σ H Q h => by
  obtain ⟨F, ρ, E, p⟩ := h
  try dsimp only at p
  unfold getS at p
  split at p
  · rename_i d q
    obtain ⟨v, k1, k2⟩ := E.slot _ _ q
    exact ⟨v, k1, p.ok k2⟩
  · rename_i xs q
    obtain ⟨v, k1, k2⟩ := E.slot _ _ q
    exact ⟨v, k1, p v H (Same.refl H) k2⟩
  · exact p.elim
theorem pe_litD {d : D} {c : Const} {k : Nat} (h : litOk d c = true) : PE X (.Constant c k p) (tE G W fun _ => .ok d) := by
  cases d <;> cases c <;> first
    | (cases h; done)
    | skip
  · exact PE.imp pe_non fun σ H Q h => by obtain ⟨F, ρ, E, p⟩ := h; exact p.ok .non
  · have e := eq_of_beq h
    subst e
    exact PE.imp pe_bl fun σ H Q h => by obtain ⟨F, ρ, E, p⟩ := h; exact p.ok (.bl _)
  · have e := eq_of_beq h
    subst e
    exact PE.imp pe_int fun σ H Q h => by obtain ⟨F, ρ, E, p⟩ := h; exact p.ok (.int _)
  · rename_i s y
    replace h : (y.cps.toList == s && decide (s.length ≤ lim) && s.all fun c => decide (c < 1114112)) = true := h
    rw [Bool.and_eq_true, Bool.and_eq_true, beq_iff_eq, decide_eq_true_eq, List.all_eq_true] at h
    obtain ⟨⟨h1, h2⟩, h3⟩ := h
    subst h1
    rw [lim_eq] at h2
    exact PE.imp pe_str fun σ H Q h => by
      obtain ⟨F, ρ, E, p⟩ := h
      have q := p.ok (.str y.cps.toList ⟨h2, fun c hc => of_decide_eq_true (h3 c hc)⟩)
      rw [sV_of] at q
      exact q
theorem pe_globD (c : CtxE g G C W X S) {k : Nat} (h : S.gl x = true) (hk : g.consts[k]? = some x) : PE X (.Name x p) (tE G W fun _ => match C.glob k with
    | some d => .ok d
    | none => .bad) := by
  obtain ⟨d, v, u, h1, h2, h3, h4⟩ := c.cn k x hk
  obtain ⟨g1, g2, g3⟩ := gl_in c h
  exact PE.imp (pe_glob g1 h2 h3 g2) fun σ H Q q => by
    obtain ⟨F, ρ, E, p⟩ := q
    rw [h1] at p
    exact Post.ok (d := d) p (h4 _)
theorem pe_fnvD (c : CtxE g G C W X S) {k : Nat} (h : S.gl x = true) (hk : g.fns[k]? = some x) : PE X (.Name x p) (tE G W fun _ => .ok (.fn k)) := by
  obtain ⟨fa, h1, h2⟩ := c.fns k x hk
  obtain ⟨g1, g2, g3⟩ := gl_in c h
  exact PE.imp (pe_glob g1 h2 (v := .ref fa) rfl g2) fun σ H Q q => by
    obtain ⟨F, ρ, E, p⟩ := q
    exact Post.ok (d := .fn k) p (.fn h1)
theorem bi_in (c : CtxE g G C W X S) {b : Bi} (hb : biOk b = true) : (∃ id, bootBuiltins (biS b) = some (.builtin id) ∧ CallR X (.builtin id) (rsD G W (biD b))) ∨ ∃ T, bootBuiltins (biS b) = some (.type T) ∧ CallR X (.type T) (rsD G W (biD b)) := by
  cases b <;> first
    | (cases hb; done)
    | skip
  · exact .inl ⟨_, by decide +kernel, bi_len c.hK⟩
  · exact .inl ⟨_, by decide +kernel, bi_sum c.calm c.hK⟩
  · exact .inl ⟨_, by decide +kernel, bi_all c.calm⟩
  · exact .inr ⟨_, by decide +kernel, bi_tuple c.hK⟩
  · exact .inr ⟨_, by decide +kernel, bi_list c.calm c.hK⟩
  · exact .inr ⟨_, by decide +kernel, bi_int⟩
  · exact .inr ⟨_, by decide +kernel, bi_str⟩
  · exact .inl ⟨_, by decide +kernel, bi_abs⟩
  · exact .inl ⟨_, by decide +kernel, bi_minL c.calm c.un c.hK⟩
  · exact .inl ⟨_, by decide +kernel, bi_max c.calm c.un c.hK⟩
  · exact .inl ⟨_, by decide +kernel, bi_sorted c.un c.hK⟩
theorem biS_in (b : Bi) : biS b ∈ bltS := by
  cases b <;> simp [biS, bltS]
/-- a block's context -/
theorem CtxE.blk (c : CtxE g G C W X S) {s : Shared} {H : Hp} {scope : Scope} {A : Addr} {cl : List (Str × Addr)} {fp : List Addr} : CtxE g G C W0 (X.blk s H scope (compEnvC scope cl A X.env) fp) (S.blk scope) := by
  refine ⟨c.hN, ?_, rfl, c.nd, c.hK, c.calm, takes0, c.un, c.bi, c.cn, c.fns, fun k fa h => ⟨(c.call k fa h).ex⟩, c.er, c.sb, c.sx, c.ct, c.wk, c.wd, fun k fa h => ⟨(c.ht k fa h).ex⟩⟩
  show relS scope X.env.scope = relS scope S.sc
  rw [c.hsc]
theorem pt_ifT {z a b : Expr} {mc ma mb : En → R} (hc : PT X z (tT G W mc)) (ha : PT X a (tT G W ma)) (hb : PT X b (tT G W mb)) : PT X (.IfExp z a b p) (tT G W fun ρ => (mc ρ).bnd fun x => ifR x (ma ρ) (mb ρ)) := by
  refine ⟨fun pins s σ H Q I h => ?_⟩
  obtain ⟨F, ρ, E, q⟩ := h
  try dsimp only at q
  have key : ∀ d H', Same H H' → PostT G F W σ H Q (ifR d (ma ρ) (mb ρ)) → ∀ t, truD d = some t → (if t = true then tT G W ma σ H' Q else tT G W mb σ H' Q) := fun d H' e q t et => by
    unfold ifR at q
    rw [et] at q
    cases t with
    | true => rw [if_pos rfl]; exact ⟨F, ρ, E.up e, PostT.up (r := ma ρ) q e⟩
    | false => rw [if_neg Bool.false_ne_true]; exact ⟨F, ρ, E.up e, PostT.up (r := mb ρ) q e⟩
  have h2 : tT G W mc σ H fun t H' => if t = true then tT G W ma σ H' Q else tT G W mb σ H' Q := by
    refine ⟨F, ρ, E, ?_⟩
    cases hr : mc ρ with
    | ok d =>
      rw [hr] at q
      replace q : PostT G F W σ H Q (ifR d (ma ρ) (mb ρ)) := q
      cases et : truD d with
      | none => unfold ifR at q; rw [et] at q; exact q.elim
      | some t => exact ⟨t, et, fun H' e => key d H' e q t et⟩
    | okm xs =>
      rw [hr] at q
      exact fun H' e => key (.lst xs) H' e q _ rfl
    | exc c => rw [hr] at q; exact q
    | bad => rw [hr] at q; exact q
  show wpAny _ _ (isTrue (.IfExp z a b p) X.env _) _ _ s
  have e0 : ∀ w, isTrue (.IfExp z a b p) X.env w = (do if ← isTrue z X.env (eval z X.env) then isTrue a X.env (eval a X.env) else isTrue b X.env (eval b X.env)) := fun w => rfl
  rw [e0]
  refine wpAny_bind (thn (hc.run pins s σ H _ I h2) fun t s1 ⟨H1, I1, q1⟩ => ?_)
  cases t with
  | true => simp only [if_true] at q1 ⊢; exact ha.run pins s1 σ H1 Q I1 q1
  | false => simp only [Bool.false_eq_true, if_false] at q1 ⊢; exact hb.run pins s1 σ H1 Q I1 q1
theorem OkE.bool {o : BoolOp} {vs : List Expr} (h : PE X (.BoolOp o vs p) (tE G W m)) (h2 : PW X (.BoolOp o vs p) (tT G W m)) : OkE X G W (.BoolOp o vs p) m := ⟨h, h2.pt, fun _ _ _ e => by cases e; exact h2⟩
theorem blk_in {own : List Nat} {scope : Scope} (hN : X.N = S.N) (hsc : X.env.scope = S.sc) (h : blkOkB S scope own = true) : BlkOk X.N X.env.scope scope (own.map fun i => ((S.N[i]?).getD Str.empty, i)) := by
  unfold blkOkB at h
  simp only [Bool.and_eq_true, List.all_eq_true, beq_iff_eq, Bool.or_eq_true, Bool.not_eq_true', decide_eq_true_eq] at h
  obtain ⟨⟨⟨⟨h1, h2⟩, h3⟩, h4⟩, h5⟩ := h
  refine ⟨h1, h2, fun q hq => ?_, fun y hy e => ?_, fun y hy e => ?_⟩
  · obtain ⟨i, hi, rfl⟩ := List.mem_map.mp hq
    show X.N[i]? = _
    have := h5 i hi
    rw [hN, List.getElem?_eq_getElem this]
    rfl
  · rw [hsc]
    rcases h3 y hy with q | q
    · rw [e] at q; cases q
    · exact q
  · rcases h4 y hy with (q | q) | q
    · rcases e with e | e
      · rw [e] at q; simp at q
      · rw [e] at q; simp at q
    · left
      rw [List.any_eq_true] at q
      obtain ⟨i, hi, q⟩ := q
      rw [beq_iff_eq] at q
      rw [List.map_map]
      exact List.mem_map.mpr ⟨i, hi, by show (S.N[i]?).getD _ = _; rw [q]; rfl⟩
    · right
      rw [hN]
      intro hm
      rw [List.contains_iff_mem.mpr hm] at q
      cases q
theorem names_in {S : Sc} {X : L2.Cx} (hN : X.N = S.N) (hsc : X.env.scope = S.sc) (hfn : X.fn = S.fn) : ∀ {is : List Nat} {es : List Expr}, tgE.namesB S is es = true → NamesAt X is es
  | [], [], _ => .nil
  | [], _ :: _, h => by cases h
  | _ :: _, [], h => by cases h
  | i :: is, e :: es, h => by
    unfold tgE.namesB at h
    split at h
    · rename_i x p hv
      obtain rfl := vName_eq hv
      rw [Bool.and_eq_true] at h
      obtain ⟨k1, k2, k3⟩ := loc_in hN hsc hfn h.1
      exact .cons k1 k2 k3 (names_in hN hsc hfn h.2)
    · cases h
theorem tg_in (c : CtxE g G C W X S) {tg : Tg} {e : Expr} (h : tgE S tg e = true) : PG X e (gD G tg) := by
  cases tg with
  | one i =>
    replace h : (match vName e with | some (x, _) => S.loc i x | none => false) = true := h
    split at h
    · rename_i x p hv
      obtain rfl := vName_eq hv
      obtain ⟨k1, k2, k3⟩ := loc_in c.hN c.hsc c.hfn h
      exact pg_oneD c.nd k1 k2 k3
    · cases h
  | many is =>
    replace h : (match vTup e with | some (es, _, _) => tgE.namesB S is es | none => false) = true := h
    split at h
    · rename_i es k p hv
      obtain rfl := vTup_eq hv
      exact pg_manyD c.hK c.calm c.nd (names_in c.hN c.hsc c.hfn h)
    · cases h
/-- arguments -/
structure OkA (X : L2.Cx) (G : Ge) (W : WX) (es : List Expr) (ms mw : En → Rs) : Prop where
  s : PA X es (tAs G W ms)
  w : PA X es (tAw G W mw)
  st : es.all notStar = true
  one : (es = [] → mw = fun _ => .ok []) ∧ ∀ e, es = [e] → ∃ mk : En → R, PE X e (tE G W mk) ∧ mw = fun ρ => consW (mk ρ) (.ok [])
theorem and2 {a b : Bool} (h : (a && b) = true) : a = true ∧ b = true := by rwa [Bool.and_eq_true] at h
theorem call_in {p2 : Pos} (c : CtxE g G C W X S) {k : Nat} (h : S.gl x = true) (hk : g.fns[k]? = some x) {es : List Expr} {ms mw : En → Rs} (ha : OkA X G W es ms mw) (h0 : es = [] → ms = fun _ => .ok []) : PE X (.Call (.Name x p) es [] p2) (tE G W fun ρ => (ms ρ).bnd fun ds => C.call k ds) := by
  obtain ⟨fa, h1, h2⟩ := c.fns k x hk
  obtain ⟨g1, g2, g3⟩ := gl_in c h
  obtain ⟨lvl, fd, ps, np, f1, f2, f3, f4, f5, f6⟩ := (c.call k fa h1).ex
  cases es with
  | nil =>
    rw [h0 rfl]
    exact pe_call0D f5 f6 f1 f2 g1 h2 f3 f4 c.tk g2
  | cons e es =>
    have st : notStar e = true ∧ es.all notStar = true := by simpa using ha.st
    exact pe_callD f5 f6 f1 f2 g1 h2 f3 f4 c.tk ha.s g2 (star_ok st.1) (star_all _ st.2)
theorem callT_in {p2 : Pos} (c : CtxE g G C W X S) {f : Nat} (h : S.gl x = true) {es : List Expr} {ms mw : En → Rs} (hk : hotB g f x es = true) (ha : OkA X G W es ms mw) : PE X (.Call (.Name x p) es [] p2) (tE G W fun ρ => (ms ρ).bnd fun ds => C.call f ds) := by
  unfold hotB at hk
  obtain ⟨k1, hk⟩ := and2 hk
  obtain ⟨k2, hk⟩ := and2 hk
  have k1 := of_decide_eq_true k1
  have k2 := eq_of_beq k2
  obtain ⟨fa, h1, h2⟩ := c.fns _ x k2
  obtain ⟨g1, g2, g3⟩ := gl_in c h
  obtain ⟨lvl, fd, ps, np, f1, f2, f3, f4, f5, f6⟩ := (c.ht _ fa h1).ex
  rw [Nat.add_sub_cancel' k1] at f1 f5 f6
  unfold tokA at hk
  split at hk
  · rename_i e
    obtain ⟨n1, n2⟩ := and2 hk
    exact pe_callT f5 f6 f1 f2 g1 h2 f3 f4 c.tk ha.s n1 n2 g2
  · cases hk
end
theorem chkEs_len {g : Gt} {S : Sc} : ∀ {ms : Exs} {es : List Expr}, chkEs g S ms es = true → exsN ms = es.length
  | .nil, [], _ => rfl
  | .nil, _ :: _, h => by unfold chkEs at h; cases h
  | .cons _ _, [], h => by unfold chkEs at h; cases h
  | .cons m ms, e :: es, h => by
    unfold chkEs at h
    show exsN ms + 1 = es.length + 1
    rw [chkEs_len (and2 h).2]
theorem evs_len {C : Cal} {n : Nat} : ∀ {ms : Exs} {ρ : En} {ds : List D}, evs C ms ρ = .ok ds → exsN ms = n → ds.length = n
  | .nil, ρ, ds, h, e => by
    unfold evs at h
    cases h
    exact e
  | .cons m ms, ρ, ds, h, e => by
    unfold evs at h
    cases n with
    | zero => cases e
    | succ n =>
      have e' : exsN ms = n := Nat.succ.inj e
      cases h1 : ev C m ρ with
      | ok d =>
        rw [h1] at h
        cases h2 : evs C ms ρ with
        | ok es =>
          rw [h2] at h
          cases h
          exact congrArg Nat.succ (evs_len h2 e')
        | exc c => rw [h2] at h; cases h
        | bad => rw [h2] at h; cases h
      | okm xs => rw [h1] at h; cases h
      | exc c => rw [h1] at h; cases h
      | bad => rw [h1] at h; cases h
theorem evs_nil {g : Gt} {S : Sc} {C : Cal} {ms : Exs} (h : chkEs g S ms [] = true) : evs C ms = fun _ => .ok [] := by
  cases ms with
  | nil => funext ρ; unfold evs; rfl
  | cons m ms => unfold chkEs at h; cases h
/-- one argument's reading -/
theorem evw_one {g : Gt} {S : Sc} {C : Cal} {ms : Exs} {es : List Expr} (h : chkEs g S ms es = true) : (es = [] → evw C ms = fun _ => .ok []) ∧ ∀ e, es = [e] → ∃ m, (notStar e = true ∧ chkE g S m e = true) ∧ evw C ms = fun ρ => consW (ev C m ρ) (.ok []) := by
  refine ⟨fun e => ?_, fun e e2 => ?_⟩
  · subst e
    cases ms with
    | nil => funext ρ; unfold evw; rfl
    | cons m ms => unfold chkEs at h; cases h
  · subst e2
    cases ms with
    | nil => unfold chkEs at h; cases h
    | cons m ms =>
      unfold chkEs at h
      obtain ⟨h1, h3⟩ := and2 h
      cases ms with
      | nil => exact ⟨m, and2 h1, by funext ρ; simp only [evw]⟩
      | cons m2 ms => unfold chkEs at h3; cases h3
theorem tgs_in {tg : Tg} {own : List Nat} {f : Nat → Str} (h : tgsIn tg own = true) : ∀ i ∈ tgs tg, i ∈ (own.map fun i => (f i, i)).map (·.2) := by
  intro i hi
  unfold tgsIn at h
  rw [List.all_eq_true] at h
  have := List.contains_iff_mem.mp (h i hi)
  rw [List.map_map]
  exact List.mem_map.mpr ⟨i, this, rfl⟩
section
variable {g : Gt} {G : Ge} {C : Cal} {W : WX} {X : L2.Cx} {S : Sc}
theorem pts_nilD {W : WX} {cond : Ex} (h : isLitT cond = true) : PTs X [] (tT G W (ev C cond)) := by
  have e : cond = .lit (.bl true) := by
    cases cond <;> first | (cases h; done) | skip
    rename_i d
    cases d <;> first | (cases h; done) | skip
    rename_i b
    cases b
    · cases h
    · rfl
  subst e
  refine ⟨fun pins s σ H Q I t => pts_nil.run pins s σ H Q I ?_⟩
  obtain ⟨F, ρ, E, p⟩ := t
  unfold ev at p
  obtain ⟨b, e, p⟩ := p
  cases e
  exact p H (Same.refl H)
theorem pe_lcD {elt tg iter : Expr} {ifs : List Expr} {scope : Scope} {own : List Nat} {f : Nat → Str} {pos : Pos} {mi : En → Wk} {mc me : En → R} {tgm : Tg} (hc : X.calm = true) (hN : X.N.Nodup) (hi : PI X tg iter (tI G W true mi)) (ok : BlkOk X.N X.env.scope scope (own.map fun i => (f i, i)))
    (hg : ∀ (s : Shared) (H : Hp) (A : Addr) (cl : List (Str × Addr)) (fp : List Addr), PG (X.blk s H scope (compEnvC scope cl A X.env) fp) tg (gD G tgm)) (ht : ∀ (s : Shared) (H : Hp) (A : Addr) (cl : List (Str × Addr)) (fp : List Addr), PTs (X.blk s H scope (compEnvC scope cl A X.env) fp) ifs (tT G W0 mc))
    (he : ∀ (s : Shared) (H : Hp) (A : Addr) (cl : List (Str × Addr)) (fp : List Addr), PE (X.blk s H scope (compEnvC scope cl A X.env) fp) elt (tE G W0 me)) (hs : ∀ x, foldedSetIterable iter X.env x = pure x) (hsub : ∀ i ∈ tgs tgm, i ∈ (own.map fun i => (f i, i)).map (·.2)) :
    PE X (.ListComp elt [⟨tg, iter, ifs, 0⟩] scope pos) (tE G W (compM mi mc me tgm own)) := PE.imp (pe_lc hc hN hi ok hg ht he hs) fun σ H Q h => by
  obtain ⟨F, ρ, E, p⟩ := h
  have e : (own.map fun i => (f i, i)).map (·.2) = own := by rw [List.map_map]; exact List.map_id _
  rw [e] at hsub ⊢
  exact tLcD hsub E p
theorem few1 {b : Expr} {pos : Pos} {env : Env} (h : starEach [b] env = [(false, eval b env)]) : ((backTo pos (starEach [b] env)).all (fun x => !x.1) && (backToKw pos (keywordEach [] env)).all (fun x => x.1.isSome) && decide ([b].length + ([] : List Keyword).length + (if ([] : List Keyword).isEmpty then 0 else 1) < 30)) = true := by
  rw [h]; rfl
theorem me_in {m : Me} {n : Str} {xs : List Expr} {x : Expr} {ma : En → R} {ms : En → Rs} {ap cp : Pos} {a : Ex} {es : Exs} (c : CtxE g G C W X S) (h : meN m n xs.length = true) (hg : m = .indexT → ∃ k y p, x = .Name y p ∧ S.gl y = true ∧ g.consts[k]? = some y ∧ ma = fun _ => match C.glob k with | some d => .ok d | none => .bad) (ha : PE X x (tE G W ma)) (hs : OkA X G W xs ms (evw C es))
    (hbase : attributeBase x n X.env (eval x X.env) = eval x X.env) (hl : (ap.endLine == cp.line) = true) : PE X (.Call (.Attribute x n ap) xs [] cp) (tE G W fun ρ => (ma ρ).bnd fun d => meR m d (evw C es ρ)) := by
  cases m <;> first
    | (unfold meN at h; cases h; done)
    | skip
  · match xs, h with
    | [b], h =>
      have e := eq_of_beq (show (n == ("join" : Str)) = true from h)
      subst e
      obtain ⟨k, h2, h3⟩ := hs.one.2 b rfl
      have h1 : notStar b = true := by simpa using hs.st
      rw [h3]
      exact pe_me1D PySem.F.slot_str_join PySem.F.type_str_join (mt_joinD c.hK) ha h2 (star_ok h1) hbase hl
    | [], h => cases h
    | _ :: _ :: _, h => cases h
  · match xs, h with
    | [b], h =>
      have e := eq_of_beq (show (n == ("index" : Str)) = true from h)
      subst e
      obtain ⟨k, h2, h3⟩ := hs.one.2 b rfl
      have h1 : notStar b = true := by simpa using hs.st
      rw [h3]
      exact pe_me1D PySem.F.slot_str_index PySem.F.type_str_index mt_indexD ha h2 (star_ok h1) hbase hl
    | [], h => cases h
    | _ :: _ :: _, h => cases h
  · match xs, h with
    | [], h =>
      have e := eq_of_beq (show (n == ("upper" : Str)) = true from h)
      subst e
      rw [hs.one.1 rfl]
      exact pe_me0D PySem.F.slot_str_upper PySem.F.type_str_upper mt_upperD ha hbase hl
    | _ :: _, h => cases h
  · match xs, h with
    | [b], h =>
      have e := eq_of_beq (show (n == ("strip" : Str)) = true from h)
      subst e
      obtain ⟨k, h2, h3⟩ := hs.one.2 b rfl
      have h1 : notStar b = true := by simpa using hs.st
      rw [h3]
      exact pe_me1D PySem.F.slot_str_strip PySem.F.type_str_strip mt_stripD ha h2 (star_ok h1) hbase hl
    | [], h => cases h
    | _ :: _ :: _, h => cases h
  · match xs, h with
    | [b], h =>
      have e := eq_of_beq (show (n == ("lstrip" : Str)) = true from h)
      subst e
      obtain ⟨k, h2, h3⟩ := hs.one.2 b rfl
      have h1 : notStar b = true := by simpa using hs.st
      rw [h3]
      exact pe_me1D PySem.F.slot_str_lstrip PySem.F.type_str_lstrip mt_lstripD ha h2 (star_ok h1) hbase hl
    | [], h => cases h
    | _ :: _ :: _, h => cases h
  · match xs, h with
    | [b], h =>
      have e := eq_of_beq (show (n == ("rstrip" : Str)) = true from h)
      subst e
      obtain ⟨k, h2, h3⟩ := hs.one.2 b rfl
      have h1 : notStar b = true := by simpa using hs.st
      rw [h3]
      exact pe_me1D PySem.F.slot_str_rstrip PySem.F.type_str_rstrip mt_rstripD ha h2 (star_ok h1) hbase hl
    | [], h => cases h
    | _ :: _ :: _, h => cases h
  · match xs, h with
    | [b], h =>
      have e := eq_of_beq (show (n == ("count" : Str)) = true from h)
      subst e
      obtain ⟨k, h2, h3⟩ := hs.one.2 b rfl
      have h1 : notStar b = true := by simpa using hs.st
      rw [h3]
      exact pe_me1D PySem.F.slot_str_count PySem.F.type_str_count mt_countD ha h2 (star_ok h1) hbase hl
    | [], h => cases h
    | _ :: _ :: _, h => cases h
  · match xs, h with
    | [b], h =>
      have e := eq_of_beq (show (n == ("index" : Str)) = true from h)
      subst e
      obtain ⟨k, h2, h3⟩ := hs.one.2 b rfl
      have h1 : notStar b = true := by simpa using hs.st
      rw [h3]
      obtain ⟨q, y, p, rfl, hy, hk, rfl⟩ := hg rfl
      obtain ⟨d, v, u, g1, g2, g3, g4⟩ := c.cn q y hk
      obtain ⟨gl, gd, _⟩ := gl_in c hy
      cases hd : isTupD d with
      | true =>
        obtain ⟨ds, rfl⟩ : ∃ ds, d = .tup ds := by cases d <;> first | exact ⟨_, rfl⟩ | cases hd
        obtain ⟨a0, o, e1, e2, e3, e4⟩ := c.ct q y ds hk g1
        have ev : v = .ref a0 := by
          rw [g2] at e1
          cases e1
          have r := g4 (fun _ => none)
          cases r with
          | tup _ _ _ => cases g3; rfl
        subst ev
        exact pe_meTD c.hK e2 e3 e4 (d0 := .tup ds) (fun ρ => by rw [g1]) g4 (pe_glob gl g2 g3 gd) PySem.F.slot_tuple_index PySem.F.type_tuple_index (mt_idxTD c.un c.hK) h2 (star_ok h1) hbase hl (few1 (star_ok h1))
      | false =>
        refine ⟨fun pins s σ H Q I t => ?_⟩
        obtain ⟨F, ρ, E, p⟩ := t
        rw [g1] at p
        replace p : Post G F W σ H Q (meR .indexT d (consW (k ρ) (.ok []))) := p
        unfold meR at p
        rw [if_neg (by show ¬ isTupD d = true; rw [hd]; exact Bool.false_ne_true)] at p
        exact p.elim
    | [], h => cases h
    | _ :: _ :: _, h => cases h
  · match xs, h with
    | [b], h =>
      have e := eq_of_beq (show (n == ("index" : Str)) = true from h)
      subst e
      obtain ⟨k, h2, h3⟩ := hs.one.2 b rfl
      have h1 : notStar b = true := by simpa using hs.st
      rw [h3]
      exact pe_meLD c.hK (fun _ => rfl) PySem.F.slot_list_index PySem.F.type_list_index (mt_idxLD c.un c.hK) ha h2 (star_ok h1) hbase hl (few1 (star_ok h1))
    | [], h => cases h
    | _ :: _ :: _, h => cases h
  · match xs, h with
    | [b], h =>
      have e := eq_of_beq (show (n == ("count" : Str)) = true from h)
      subst e
      obtain ⟨k, h2, h3⟩ := hs.one.2 b rfl
      have h1 : notStar b = true := by simpa using hs.st
      rw [h3]
      exact pe_meLD c.hK (fun _ => rfl) PySem.F.slot_list_count PySem.F.type_list_count (mt_cntLD c.un c.hK) ha h2 (star_ok h1) hbase hl (few1 (star_ok h1))
    | [], h => cases h
    | _ :: _ :: _, h => cases h

theorem isi_in {x y : Expr} {ma : En → R} {t : Ty} {p q : Pos} (c : CtxE g G C W X S) (hg : Gl X "isinstance") (hx : notStar x = true) (ha : PE X x (tE G W ma)) (h : tyE S t y = true) : PE X (.Call (.Name "isinstance" p) [x, y] [] q) (tE G W fun ρ => (ma ρ).bnd fun d => isiD d t) := by
  have one : ∀ t : Ty, t ≠ .intstr → (match vName y with | some (n1, _) => S.gl n1 && (n1 == (tyS t : Str)) | none => false) = true → (tyS t : Str) ∈ bltS → bootBuiltins (tyS t) = some (.type (tyS t)) → PE X (.Call (.Name "isinstance" p) [x, y] [] q) (tE G W fun ρ => (ma ρ).bnd fun d => isiD d t) := fun t ht h' hb h2 => by
    clear h
    split at h'
    · rename_i n p2 hv
      obtain rfl := vName_eq hv
      obtain ⟨h3, h4⟩ := and2 h'
      obtain rfl := eq_of_beq h4
      obtain ⟨g1, g2, g3⟩ := gl_in c h3
      exact pe_isiD c.hK ht hg (c.bi _ (by simp [bltS])) g1 (c.bi _ hb) h2 g3 g2 ha (star_ok hx)
    · cases h'
  cases t with
  | int => exact one .int (by decide) h (by simp [bltS, tyS]) (by decide +kernel)
  | str => exact one .str (by decide) h (by simp [bltS, tyS]) (by decide +kernel)
  | tup => exact one .tup (by decide) h (by simp [bltS, tyS]) (by decide +kernel)
  | bl => exact one .bl (by decide) h (by simp [bltS, tyS]) (by decide +kernel)
  | intstr =>
    clear one
    replace h : (match vTup y with | some ([t1, t2], _, _) => (match vName t1 with | some (n1, _) => (match vName t2 with | some (n2, _) => S.gl n1 && S.gl n2 && (n1 == ("int" : Str)) && (n2 == ("str" : Str)) | none => false) | none => false) | _ => false) = true := h
    split at h
    · rename_i t1 t2 k p4 hv
      obtain rfl := vTup_eq hv
      split at h
      · rename_i n1 p5 hv1
        obtain rfl := vName_eq hv1
        split at h
        · rename_i n2 p6 hv2
          obtain rfl := vName_eq hv2
          obtain ⟨j1, h4⟩ := and2 h
          obtain ⟨j2, h3⟩ := and2 j1
          obtain ⟨j3, j4⟩ := and2 j2
          obtain rfl := eq_of_beq h3
          obtain rfl := eq_of_beq h4
          exact pe_isi2D c.hK hg (c.bi _ (by simp [bltS])) (gl_in c j3).1 (c.bi _ (by simp [bltS])) (gl_in c j4).1 (c.bi _ (by simp [bltS])) ha (star_ok hx)
        · cases h
      · cases h
    · cases h
end
theorem po_of {C : Cal} {G : Ge} {W : WX} {X : L2.Cx} {m : Ex} {o : Option Expr} {f : Expr → Bool} (h : chkOf m o f = true) (k : ∀ e, f e = true → PE X e (tE G W (ev C m))) : PO X o (tO G W m (ev C m)) := by
  cases o with
  | none =>
    have e : m = .omit := by cases m <;> first | rfl | cases h
    subst e
    exact po_noneD
  | some e =>
    have h' : (!isO m && f e) = true := h
    obtain ⟨h1, h2⟩ := and2 h'
    exact po_someD (by simpa using h1) (k e h2)
/-! ### soundness -/
variable {g : Gt} {G : Ge} {C : Cal}
mutual
theorem sndE : ∀ (m : Ex) (e : Expr) (W : WX) (X : L2.Cx) (S : Sc), CtxE g G C W X S → chkE g S m e = true → OkE X G W e (ev C m)
  | .omit, e, W, X, S, c, h => by unfold chkE at h; cases h
  | .slot i, e, W, X, S, c, h => by
    unfold chkE at h
    split at h
    · rename_i x p hv
      obtain rfl := vName_eq hv
      obtain ⟨k1, k2, k3, k4⟩ := slot_in c h
      exact .val c.hK (pe_slotD k1 k2 k3 k4) rfl
    · cases h
  | .lit d, e, W, X, S, c, h => by
    unfold chkE at h
    split at h
    · rename_i k y p hv
      obtain rfl := vConst_eq hv
      exact .val c.hK (pe_litD h) rfl
    · cases h
  | .glob k, e, W, X, S, c, h => by
    unfold chkE at h
    split at h
    · rename_i x p hv
      obtain rfl := vName_eq hv
      obtain ⟨h1, h2⟩ := and2 h
      exact .val c.hK (pe_globD c h1 (eq_of_beq h2)) rfl
    · cases h
  | .fnv k, e, W, X, S, c, h => by
    unfold chkE at h
    split at h
    · rename_i x p hv
      obtain rfl := vName_eq hv
      obtain ⟨h1, h2⟩ := and2 h
      exact .val c.hK (pe_fnvD c h1 (eq_of_beq h2)) rfl
    · cases h
  | .bin op a b, e, W, X, S, c, h => by
    unfold chkE at h
    split at h
    · rename_i x o y p hv
      obtain rfl := vBin_eq hv
      obtain ⟨h1, h3⟩ := and2 h
      obtain ⟨h1, h2⟩ := and2 h1
      obtain rfl := opEq_ok h1
      exact .val c.hK (pe_bin op c.hK (sndE a x W X S c h2).1 (sndE b y W X S c h3).1) rfl
    · cases h
  | .neg a, e, W, X, S, c, h => by
    unfold chkE at h
    split at h
    · rename_i x p hv
      obtain rfl := vUn_eq hv
      exact .val c.hK (pe_neg (sndE a x W X S c h).1) rfl
    · cases h
  | .cmp op a b, e, W, X, S, c, h => by
    unfold chkE at h
    split at h
    · rename_i x o y p hv
      obtain rfl := vCmp_eq hv
      obtain ⟨h1, h4⟩ := and2 h
      obtain ⟨h1, h3⟩ := and2 h1
      obtain ⟨h1, h2⟩ := and2 h1
      obtain rfl := cEq_ok h1
      have p1 := (sndE a x W X S c h3).1
      have p2 := (sndE b y W X S c h4).1
      exact ⟨pe_cmpD op c.un c.hK p1 p2 (marks_ok h2), pt_cmpD op c.un c.hK p1 p2 (marks_ok h2), fun _ _ _ e => by cases e⟩
    · cases h
  | .inR a b, e, W, X, S, c, h => by
    unfold chkE at h
    split at h
    · rename_i x y p hv
      obtain rfl := vCmp_eq hv
      split at h
      · rename_i n pn z q hz
        obtain rfl := vFn_eq hz
        obtain ⟨h1, r1⟩ := and2 h
        obtain ⟨h2, r2⟩ := and2 r1
        obtain ⟨h3, r3⟩ := and2 r2
        obtain ⟨h4, h5⟩ := and2 r3
        obtain rfl := eq_of_beq h2
        have p1 := (sndE a x W X S c h4).1
        have p2 := (sndE b z W X S c h5).1
        have g1 := (gl_in c h1).1
        have m1 : X.mg "range" = none := c.bi _ (by simp [bltS])
        exact ⟨pe_inR g1 m1 p1 p2 (star_ok h3), pt_inR g1 m1 p1 p2 (star_ok h3), fun _ _ _ e => by cases e⟩
      · cases h
    · cases h
  | .chain o o' a b d, e, W, X, S, c, h => by
    unfold chkE at h
    split at h
    · rename_i x q q' y z p hv
      obtain rfl := vCmp_eq hv
      obtain ⟨h1, h6⟩ := and2 h
      obtain ⟨h1, h5⟩ := and2 h1
      obtain ⟨h1, h4⟩ := and2 h1
      obtain ⟨h1, h3⟩ := and2 h1
      obtain ⟨h1, h2⟩ := and2 h1
      obtain rfl := cEq_ok h1
      obtain rfl := cEq_ok h2
      have p1 := (sndE a x W X S c h4).1
      have p2 := (sndE b y W X S c h5).1
      have p3 := (sndE d z W X S c h6).1
      exact ⟨pe_chainD o o' c.un c.hK p1 p2 p3 (lastMarks_ok h3), pt_chainD o o' c.un c.hK p1 p2 p3 (lastMarks_ok h3), fun _ _ _ e => by cases e⟩
    · cases h
  | .and_ a b, e, W, X, S, c, h => by
    unfold chkE at h
    split at h
    · rename_i x y p hv
      obtain rfl := vBool_eq hv
      obtain ⟨h1, h2⟩ := and2 h
      have p1 := sndE a x W X S c h1
      have p2 := sndE b y W X S c h2
      exact .bool (pe_andD p1.1 (pe_one p2.1)) (pw_andD p1.2.1 (pw_and1 p2.2.1))
    · rename_i x y z r p hv
      obtain rfl := vBool_eq hv
      obtain ⟨h1, h2⟩ := and2 h
      have p1 := sndE a x W X S c h1
      have p2 := sndE b (.BoolOp .And (y :: z :: r) p) W X S c h2
      exact .bool (pe_andD p1.1 p2.1) (pw_andD p1.2.1 (p2.2.2 _ _ _ rfl))
    · cases h
  | .or_ a b, e, W, X, S, c, h => by
    unfold chkE at h
    split at h
    · rename_i x y p hv
      obtain rfl := vBool_eq hv
      obtain ⟨h1, h2⟩ := and2 h
      have p1 := sndE a x W X S c h1
      have p2 := sndE b y W X S c h2
      exact .bool (pe_orD p1.1 (pe_one p2.1)) (pw_orD p1.2.1 (pw_or1 p2.2.1))
    · rename_i x y z r p hv
      obtain rfl := vBool_eq hv
      obtain ⟨h1, h2⟩ := and2 h
      have p1 := sndE a x W X S c h1
      have p2 := sndE b (.BoolOp .Or (y :: z :: r) p) W X S c h2
      exact .bool (pe_orD p1.1 p2.1) (pw_orD p1.2.1 (p2.2.2 _ _ _ rfl))
    · cases h
  | .not_ a, e, W, X, S, c, h => by
    unfold chkE at h
    split at h
    · rename_i x p hv
      obtain rfl := vUn_eq hv
      have p1 := sndE a x W X S c h
      exact ⟨pe_notD c.hK p1.1, pt_notD p1.2.1, fun _ _ _ e => by cases e⟩
    · cases h
  | .ife z a b, e, W, X, S, c, h => by
    unfold chkE at h
    split at h
    · rename_i w x y p hv
      obtain rfl := vIf_eq hv
      obtain ⟨h1, h3⟩ := and2 h
      obtain ⟨h1, h2⟩ := and2 h1
      have p1 := sndE z w W X S c h1
      have p2 := sndE a x W X S c h2
      have p3 := sndE b y W X S c h3
      exact ⟨pe_ifD p1.2.1 p2.1 p3.1, pt_ifT p1.2.1 p2.2.1 p3.2.1, fun _ _ _ e => by cases e⟩
    · cases h
  | .tup es, e, W, X, S, c, h => by
    unfold chkE at h
    split at h
    · rename_i xs k p hv
      obtain rfl := vTup_eq hv
      obtain ⟨h1, h2⟩ := and2 h
      exact .val c.hK (pe_tupD (sndEs es xs W X S c h2).s fun ρ ds q => by have := evs_len q (chkEs_len h2); have h1 := of_decide_eq_true h1; omega) rfl
    · cases h
  | .lst es, e, W, X, S, c, h => by
    unfold chkE at h
    split at h
    · rename_i xs p hv
      obtain rfl := vLst_eq hv
      obtain ⟨h1, h2⟩ := and2 h
      exact .val c.hK (pe_lstD (sndEs es xs W X S c h2).s fun ρ ds q => by have := evs_len q (chkEs_len h2); have h1 := of_decide_eq_true h1; omega) rfl
    · cases h
  | .ix a i, e, W, X, S, c, h => by
    unfold chkE at h
    split at h
    · rename_i x y p hv
      obtain rfl := vSub_eq hv
      obtain ⟨h1, h3⟩ := and2 h
      obtain ⟨h1, h2⟩ := and2 h1
      exact .val c.hK (pe_ixD c.hK (sndE a x W X S c h2).1 (sndE i y W X S c h3).1 (plain_ok h1)) rfl
    · cases h
  | .sl a lo hi, e, W, X, S, c, h => by
    unfold chkE at h
    split at h
    · rename_i x y p hv
      obtain rfl := vSub_eq hv
      split at h
      · rename_i l r q hv2
        obtain rfl := vSlc_eq hv2
        obtain ⟨h1, h3⟩ := and2 h
        obtain ⟨h1, h2⟩ := and2 h1
        exact .val c.hK (pe_slD c.hK (sndE a x W X S c h1).1 (po_of h2 fun z hz => (sndE lo z W X S c hz).1) (po_of h3 fun z hz => (sndE hi z W X S c hz).1)) rfl
      · cases h
    · cases h
  | .sl2 a lo hi, e, W, X, S, c, h => by
    unfold chkE at h
    split at h
    · rename_i x y p hv
      obtain rfl := vSub_eq hv
      split at h
      · rename_i l r st q hv2
        obtain rfl := vSlc_eq hv2
        obtain ⟨h1, h3⟩ := and2 h
        obtain ⟨h1, h2⟩ := and2 h1
        obtain ⟨h0, h1⟩ := and2 h1
        obtain ⟨⟨k, pz⟩, h0⟩ := Option.isSome_iff_exists.mp h0
        obtain rfl := vTwo_eq h0
        exact .val c.hK (pe_sl2D c.hK (sndE a x W X S c h1).1 (po_of h2 fun z hz => (sndE lo z W X S c hz).1) (po_of h3 fun z hz => (sndE hi z W X S c hz).1)) rfl
      · cases h
    · cases h
  | .rev a, e, W, X, S, c, h => by
    unfold chkE at h
    split at h
    · rename_i x y p hv
      obtain rfl := vSub_eq hv
      split at h
      · rename_i z q hv2
        obtain rfl := vSlc_eq hv2
        split at h
        · rename_i t q2 hv3
          obtain rfl := vUn_eq hv3
          split at h
          · rename_i k q3 hv4
            obtain rfl := vConst_eq hv4
            exact .val c.hK (pe_revD c.hK (sndE a x W X S c h).1) rfl
          · cases h
        · cases h
      · cases h
    · cases h
  | .call f es, e, W, X, S, c, h => by
    unfold chkE at h
    split at h
    · rename_i x p xs q hv
      obtain rfl := vFn_eq hv
      obtain ⟨h1, h3⟩ := and2 h
      obtain ⟨h1, h2⟩ := and2 h1
      rw [Bool.or_eq_true] at h2
      rcases h2 with h2 | h2
      · exact .val c.hK (call_in c h1 (eq_of_beq h2) (sndEs es xs W X S c h3) (fun e => by subst e; exact evs_nil h3)) rfl
      · exact .val c.hK (callT_in c h1 h2 (sndEs es xs W X S c h3)) rfl
    · cases h
  | .callS i es, e, W, X, S, c, h => by
    unfold chkE at h
    split at h
    · rename_i x p x1 xs q hv
      obtain rfl := vFn_eq hv
      obtain ⟨h1, h2⟩ := and2 h
      obtain ⟨k1, k2, k3, k4⟩ := slot_in c h1
      have ha := sndEs es (x1 :: xs) W X S c h2
      have st : notStar x1 = true ∧ xs.all notStar = true := by simpa using ha.st
      refine .val c.hK ⟨fun pins s σ H Q I t => ?_⟩ rfl
      obtain ⟨F, ρ, E, p⟩ := t
      replace p : Post G F W σ H Q ((getS ρ i).bndS fun g => callSR C g (evs C es ρ)) := by unfold ev at p; exact p
      unfold getS at p
      split at p
      · rename_i d q2
        replace p : Post G F W σ H Q (callSR C d (evs C es ρ)) := p
        unfold callSR at p
        split at p
        · rename_i f
          obtain ⟨v, r1, r2⟩ := E.slot _ _ q2
          have r2' : Rep G (sol H F) v (.fn f) := r2
          cases r2' with
          | @fn fa _ hfa =>
            obtain ⟨lvl, fd, ps, np, f1, f2, f3, f4, f5, f6⟩ := (c.call f fa hfa).ex
            exact pe_callLD f5 f6 f1 f2 k1 k2 f3 f4 c.tk ha.s k3 k4 (star_ok st.1) (star_all _ st.2) I r1 ⟨F, ρ, E, p⟩
        · exact p.elim
      · exact p.elim
      · exact p.elim
    · cases h
  | .bi b es, e, W, X, S, c, h => by
    unfold chkE at h
    split at h
    · rename_i x p x1 xs q hv
      obtain rfl := vFn_eq hv
      obtain ⟨j1, h4⟩ := and2 h
      obtain ⟨j2, h3⟩ := and2 j1
      obtain ⟨j3, j4⟩ := and2 j2
      have e3 := eq_of_beq h3
      subst e3
      obtain ⟨g1, g2, g3⟩ := gl_in c j4
      have ha := sndEs es (x1 :: xs) W X S c h4
      have st : notStar x1 = true ∧ xs.all notStar = true := by simpa using ha.st
      rcases bi_in (W := W) c j3 with ⟨id, b1, b2⟩ | ⟨T, b1, b2⟩
      · exact .val c.hK (pe_biB b2 g1 (c.bi _ (biS_in b)) b1 ha.w g3 g2 (star_ok st.1) (star_all _ st.2)) rfl
      · exact .val c.hK (pe_biT b2 g1 (c.bi _ (biS_in b)) b1 ha.w g3 g2 (star_ok st.1) (star_all _ st.2)) rfl
    · cases h
  | .rngL (.rng1 a), e, W, X, S, c, h => by
    unfold chkE at h
    split at h
    · rename_i nl pl x0 q0 hv0
      obtain rfl := vFn_eq hv0
      obtain ⟨k1, r1⟩ := and2 h
      obtain ⟨k2, r2⟩ := and2 r1
      obtain ⟨k3, r3⟩ := and2 r2
      obtain ⟨k4, hI⟩ := and2 r3
      obtain rfl := eq_of_beq k2
      clear h r1 r2 r3
      unfold chkI at hI
      split at hI
      · rename_i n p x q hv
        obtain rfl := vFn_eq hv
        obtain ⟨h1, h4⟩ := and2 hI
        obtain ⟨h1, h3⟩ := and2 h1
        obtain ⟨h1, h2⟩ := and2 h1
        obtain rfl := eq_of_beq h2
        exact .val c.hK (pe_rngL1 c.calm (gl_in c k1).1 (c.bi _ (by simp [bltS])) (gl_in c h1).1 (c.bi _ (by simp [bltS])) (sndE a x W X S c h4).1 (star_ok h3) (star_ok k3)) rfl
      · cases hI
    · cases h
  | .rngL (.rng2 a b), e, W, X, S, c, h => by
    unfold chkE at h
    split at h
    · rename_i nl pl x0 q0 hv0
      obtain rfl := vFn_eq hv0
      obtain ⟨k1, r1⟩ := and2 h
      obtain ⟨k2, r2⟩ := and2 r1
      obtain ⟨k3, r3⟩ := and2 r2
      obtain ⟨k4, hI⟩ := and2 r3
      obtain rfl := eq_of_beq k2
      clear h r1 r2 r3
      unfold chkI at hI
      split at hI
      · rename_i n p x y q hv
        obtain rfl := vFn_eq hv
        obtain ⟨h1, h6⟩ := and2 hI
        obtain ⟨h1, h5⟩ := and2 h1
        obtain ⟨h1, h4⟩ := and2 h1
        obtain ⟨h1, h3⟩ := and2 h1
        obtain ⟨h1, h2⟩ := and2 h1
        obtain rfl := eq_of_beq h2
        exact .val c.hK (pe_rngL2 c.calm (gl_in c k1).1 (c.bi _ (by simp [bltS])) (gl_in c h1).1 (c.bi _ (by simp [bltS])) (sndE a x W X S c h5).1 (sndE b y W X S c h6).1 (star_ok h3) (star_ok h4) (star_all _ (by simp [h4])) (star_ok k3)) rfl
      · cases hI
    · cases h
  | .rngL (.rng3 a b d), e, W, X, S, c, h => by
    unfold chkE at h
    split at h
    · rename_i nl pl x0 q0 hv0
      obtain rfl := vFn_eq hv0
      obtain ⟨k1, r1⟩ := and2 h
      obtain ⟨k2, r2⟩ := and2 r1
      obtain ⟨k3, r3⟩ := and2 r2
      obtain ⟨k4, hI⟩ := and2 r3
      obtain rfl := eq_of_beq k2
      clear h r1 r2 r3
      unfold chkI at hI
      split at hI
      · rename_i n p x y z q hv
        obtain rfl := vFn_eq hv
        obtain ⟨h1, h8⟩ := and2 hI
        obtain ⟨h1, h7⟩ := and2 h1
        obtain ⟨h1, h6⟩ := and2 h1
        obtain ⟨h1, h5⟩ := and2 h1
        obtain ⟨h1, h4⟩ := and2 h1
        obtain ⟨h1, h3⟩ := and2 h1
        obtain ⟨h1, h2⟩ := and2 h1
        obtain rfl := eq_of_beq h2
        exact .val c.hK (pe_rngL3 c.calm (gl_in c k1).1 (c.bi _ (by simp [bltS])) (gl_in c h1).1 (c.bi _ (by simp [bltS])) (sndE a x W X S c h6).1 (sndE b y W X S c h7).1 (sndE d z W X S c h8).1 (star_ok h3) (star_ok h4) (star_ok h5) (star_all _ (by simp [h4, h5])) (star_ok k3)) rfl
      · cases hI
    · cases h
  | .rngL (.val a), e, W, X, S, c, h => by
    unfold chkE at h
    split at h
    · rename_i nl pl x0 q0 hv0
      obtain rfl := vFn_eq hv0
      obtain ⟨k1, r1⟩ := and2 h
      obtain ⟨k2, r2⟩ := and2 r1
      obtain ⟨k3, r3⟩ := and2 r2
      obtain ⟨k4, hI⟩ := and2 r3
      obtain rfl := eq_of_beq k2
      clear h r1 r2 r3
      cases k4
    · cases h
  | .rngL (.enum a), e, W, X, S, c, h => by
    unfold chkE at h
    split at h
    · rename_i nl pl x0 q0 hv0
      obtain rfl := vFn_eq hv0
      obtain ⟨k1, r1⟩ := and2 h
      obtain ⟨k2, r2⟩ := and2 r1
      obtain ⟨k3, r3⟩ := and2 r2
      obtain ⟨k4, hI⟩ := and2 r3
      obtain rfl := eq_of_beq k2
      clear h r1 r2 r3
      cases k4
    · cases h
  | .rngL (.zip a b), e, W, X, S, c, h => by
    unfold chkE at h
    split at h
    · rename_i nl pl x0 q0 hv0
      obtain rfl := vFn_eq hv0
      obtain ⟨k1, r1⟩ := and2 h
      obtain ⟨k2, r2⟩ := and2 r1
      obtain ⟨k3, r3⟩ := and2 r2
      obtain ⟨k4, hI⟩ := and2 r3
      obtain rfl := eq_of_beq k2
      clear h r1 r2 r3
      cases k4
    · cases h
  | .me m a es, e, W, X, S, c, h => by
    unfold chkE at h
    split at h
    · rename_i x n ap xs cp hv
      obtain rfl := vMe_eq hv
      obtain ⟨h1, h5⟩ := and2 h
      obtain ⟨h1, h4⟩ := and2 h1
      obtain ⟨h1, h3⟩ := and2 h1
      obtain ⟨h1, h2⟩ := and2 h1
      obtain ⟨h3, h3g⟩ := and2 h3
      have ha := (sndE a x W X S c h4).1
      have hs := sndEs es xs W X S c h5
      refine .val c.hK (me_in (a := a) c h3 (fun em => ?_) ha hs (base_ok h1) h2) rfl
      subst em
      obtain ⟨k, rfl⟩ : ∃ k, a = .glob k := by
        cases a <;> first | exact ⟨_, rfl⟩ | cases h3g
      unfold chkE at h4
      split at h4
      · rename_i y p hv
        obtain rfl := vName_eq hv
        obtain ⟨j1, j2⟩ := and2 h4
        exact ⟨k, y, p, rfl, j1, eq_of_beq j2, rfl⟩
      · cases h4
    · cases h
  | .isi a t, e, W, X, S, c, h => by
    unfold chkE at h
    split at h
    · rename_i n p x y q hv
      obtain rfl := vFn_eq hv
      obtain ⟨h1, h5⟩ := and2 h
      obtain ⟨h1, h4⟩ := and2 h1
      obtain ⟨h1, h3⟩ := and2 h1
      obtain ⟨h1, h2⟩ := and2 h1
      have e2 := eq_of_beq h2
      subst e2
      obtain ⟨g1, g2, g3⟩ := gl_in c h1
      exact .val c.hK (isi_in c g1 h3 (sndE a x W X S c h4).1 h5) rfl
    · cases h
  | .comp elt tg it cond own, e, W, X, S, c, h => by
    unfold chkE at h
    split at h
    · rename_i x t i ifs scope p hv
      obtain rfl := vLc_eq hv
      obtain ⟨h1, h7⟩ := and2 h
      obtain ⟨h1, h6⟩ := and2 h1
      obtain ⟨h1, h5⟩ := and2 h1
      obtain ⟨h1, h4⟩ := and2 h1
      obtain ⟨h1, h3⟩ := and2 h1
      obtain ⟨h1, h2⟩ := and2 h1
      have hi := sndI it t i W X S c h4 true
      refine .val c.hK (pe_lcD c.calm c.nd hi (blk_in c.hN c.hsc h1) (fun s H A cl fp => tg_in c.blk h5) (fun s H A cl fp => ?_) (fun s H A cl fp => (sndE elt x W0 _ (S.blk scope) c.blk h6).1) (folded_ok h3) (tgs_in h2)) rfl
      cases ifs with
      | nil => exact pts_nilD h7
      | cons d ds =>
        cases ds with
        | nil => exact pts_one (sndE cond d W0 _ (S.blk scope) c.blk h7).2.1
        | cons d2 ds => cases h7
    · cases h
theorem sndEs : ∀ (ms : Exs) (es : List Expr) (W : WX) (X : L2.Cx) (S : Sc), CtxE g G C W X S → chkEs g S ms es = true → OkA X G W es (evs C ms) (evw C ms)
  | .nil, [], W, X, S, c, h => ⟨pa_nilD, pa_nilW, rfl, fun _ => rfl, fun e z => by cases z⟩
  | .nil, _ :: _, W, X, S, c, h => by unfold chkEs at h; cases h
  | .cons _ _, [], W, X, S, c, h => by unfold chkEs at h; cases h
  | .cons m ms, e :: es, W, X, S, c, h => by
    unfold chkEs at h
    obtain ⟨h1, h3⟩ := and2 h
    obtain ⟨h1, h2⟩ := and2 h1
    have p := (sndE m e W X S c h2).1
    have q := sndEs ms es W X S c h3
    exact ⟨pa_consD p q.s (star_ok h1), pa_consW p q.w (star_ok h1), by simp [h1, q.st], (fun z => by cases z), fun e' z => by
      cases z
      refine ⟨_, p, ?_⟩
      have e2 := q.one.1 rfl
      funext ρ
      show consW _ (evw C ms ρ) = _
      rw [e2]⟩
theorem sndI : ∀ (m : It) (t e : Expr) (W : WX) (X : L2.Cx) (S : Sc), CtxE g G C W X S → chkI g S m t e = true → ∀ w, PI X t e (tI G W w (evi C w m))
  | .val m, t, e, W, X, S, c, h, w => by unfold chkI at h; exact pi_valD c.hK (sndE m e W X S c h).1
  | .rng1 a, t, e, W, X, S, c, h, w => by
    unfold chkI at h
    split at h
    · rename_i n p x q hv
      obtain rfl := vFn_eq hv
      obtain ⟨h1, h4⟩ := and2 h
      obtain ⟨h1, h3⟩ := and2 h1
      obtain ⟨h1, h2⟩ := and2 h1
      obtain rfl := eq_of_beq h2
      exact pi_rng1D (sndE a x W X S c h4).1 (gl_in c h1).1 (c.bi _ (by simp [bltS])) (star_ok h3)
    · cases h
  | .rng2 a b, t, e, W, X, S, c, h, w => by
    unfold chkI at h
    split at h
    · rename_i n p x y q hv
      obtain rfl := vFn_eq hv
      obtain ⟨h1, h6⟩ := and2 h
      obtain ⟨h1, h5⟩ := and2 h1
      obtain ⟨h1, h4⟩ := and2 h1
      obtain ⟨h1, h3⟩ := and2 h1
      obtain ⟨h1, h2⟩ := and2 h1
      obtain rfl := eq_of_beq h2
      exact pi_rng2D (sndE a x W X S c h5).1 (sndE b y W X S c h6).1 (gl_in c h1).1 (c.bi _ (by simp [bltS])) (star_ok h3) (star_ok h4)
    · cases h
  | .rng3 a b d, t, e, W, X, S, c, h, w => by
    unfold chkI at h
    split at h
    · rename_i n p x y z q hv
      obtain rfl := vFn_eq hv
      obtain ⟨h1, h8⟩ := and2 h
      obtain ⟨h1, h7⟩ := and2 h1
      obtain ⟨h1, h6⟩ := and2 h1
      obtain ⟨h1, h5⟩ := and2 h1
      obtain ⟨h1, h4⟩ := and2 h1
      obtain ⟨h1, h3⟩ := and2 h1
      obtain ⟨h1, h2⟩ := and2 h1
      obtain rfl := eq_of_beq h2
      exact pi_rng3D (sndE a x W X S c h6).1 (sndE b y W X S c h7).1 (sndE d z W X S c h8).1 (gl_in c h1).1 (c.bi _ (by simp [bltS])) (star_ok h3) (star_ok h4) (star_ok h5) (star_all _ (by simp [h4, h5]))
    · cases h
  | .enum m, t, e, W, X, S, c, h, w => by
    unfold chkI at h
    obtain ⟨h0, h⟩ := and2 h
    obtain ⟨⟨es, k, p0⟩, h0⟩ := Option.isSome_iff_exists.mp h0
    obtain rfl := vTup_eq h0
    split at h
    · rename_i n p x q hv
      obtain rfl := vFn_eq hv
      obtain ⟨h1, h4⟩ := and2 h
      obtain ⟨h1, h3⟩ := and2 h1
      obtain ⟨h1, h2⟩ := and2 h1
      obtain rfl := eq_of_beq h2
      exact pi_enumD c.hK (sndE m x W X S c h4).1 (gl_in c h1).1 (c.bi _ (by simp [bltS])) (star_ok h3)
    · cases h
  | .zip a b, t, e, W, X, S, c, h, w => by
    unfold chkI at h
    obtain ⟨h0, h⟩ := and2 h
    obtain ⟨⟨es, k, p0⟩, h0⟩ := Option.isSome_iff_exists.mp h0
    obtain rfl := vTup_eq h0
    split at h
    · rename_i n p x y q hv
      obtain rfl := vFn_eq hv
      obtain ⟨h1, h6⟩ := and2 h
      obtain ⟨h1, h5⟩ := and2 h1
      obtain ⟨h1, h4⟩ := and2 h1
      obtain ⟨h1, h3⟩ := and2 h1
      obtain ⟨h1, h2⟩ := and2 h1
      obtain rfl := eq_of_beq h2
      exact pi_zipD c.hK (sndE a x W X S c h5).1 (sndE b y W X S c h6).1 (gl_in c h1).1 (c.bi _ (by simp [bltS])) (star_ok h3) (star_ok h4) (star_all _ (by simp [h4]))
    · cases h
end
end Dk

/-! DkN: a walk over a text whose signs' tokens are known. -/
namespace Dk
open PySem PySem.Spec PyProof.Rows L2
def vAsg : Stmt → Option (Expr × Expr × Pos) | .Assign [t] v p => some (t, v, p) | _ => none
def vRet : Stmt → Option (Expr × Pos) | .Return (some e) p => some (e, p) | _ => none
def vExp : Stmt → Option (Expr × Pos) | .Expr e p => some (e, p) | _ => none
def vIfS : Stmt → Option (Expr × List Stmt × List Stmt × Pos) | .If c a b p => some (c, a, b, p) | _ => none
def vFor : Stmt → Option (Expr × Expr × List Stmt × Pos) | .For t i a [] p => some (t, i, a, p) | _ => none
def vWhl : Stmt → Option (Expr × List Stmt × Pos) | .While c a [] p => some (c, a, p) | _ => none
def vPas : Stmt → Option Pos | .Pass p => some p | _ => none
theorem vAsg_eq {s t v p} (h : vAsg s = some (t, v, p)) : s = .Assign [t] v p := by
  unfold vAsg at h
  split at h
  · cases h; rfl
  · cases h
theorem vRet_eq {s e p} (h : vRet s = some (e, p)) : s = .Return (some e) p := by
  unfold vRet at h
  split at h
  · cases h; rfl
  · cases h
theorem vExp_eq {s e p} (h : vExp s = some (e, p)) : s = .Expr e p := by
  unfold vExp at h
  split at h
  · cases h; rfl
  · cases h
theorem vIfS_eq {s c a b p} (h : vIfS s = some (c, a, b, p)) : s = .If c a b p := by
  unfold vIfS at h
  split at h
  · cases h; rfl
  · cases h
theorem vFor_eq {s t i a p} (h : vFor s = some (t, i, a, p)) : s = .For t i a [] p := by
  unfold vFor at h
  split at h
  · cases h; rfl
  · cases h
theorem vWhl_eq {s c a p} (h : vWhl s = some (c, a, p)) : s = .While c a [] p := by
  unfold vWhl at h
  split at h
  · cases h; rfl
  · cases h
theorem vPas_eq {s p} (h : vPas s = some p) : s = .Pass p := by
  unfold vPas at h
  split at h
  · cases h; rfl
  · cases h
def Sc.locl (S : Sc) (i : Nat) (x : Str) : Bool := (S.N[i]? == some x) && (S.sc.names.lookup x == some .local)
/-- t.replace("?", x) -/
def repB (S : Sc) (x : Str) (a : Expr) : Bool := match vMe a with
  | some (o, n, ap, [q, y], cp) => (n == ("replace" : Str)) && ((ap.endLine == cp.line) && ((match vName o with | some (tx, _) => S.slot 0 tx | none => false) && ((match vConst q with | some (.str w, _, _) => w == ⟨#[63]⟩ | _ => false) && (match vName y with | some (y, _) => y == x | none => false))))
  | _ => false
/-- the same, the text's slot told -/
def repT (S : Sc) (t : Nat) (x : Str) (a : Expr) : Bool := match vMe a with
  | some (o, n, ap, [q, y], cp) => (n == ("replace" : Str)) && ((ap.endLine == cp.line) && ((match vName o with | some (tx, _) => S.slot t tx | none => false) && ((match vConst q with | some (.str w, _, _) => w == ⟨#[63]⟩ | _ => false) && (match vName y with | some (y, _) => y == x | none => false))))
  | _ => false
/-- f(t.replace("?", x)) -/
def askB (g : Gt) (S : Sc) (f : Nat) (x : Str) (c : Expr) : Bool := match vFn c with
  | some (n, _, [a], _) => S.gl n && (g.fns[f]? == some n && (notStar a && repB S x a))
  | _ => false
/-- [x for x in k if f(t.replace("?", x))] -/
def gapB (g : Gt) (S : Sc) (f k : Nat) (e : Expr) : Bool := match vLc e with
  | some (elt, [⟨tg, iter, [c], 0⟩], scope, _) => (match vName tg, vName iter with
    | some (x, _), some (n, _) => blkOkB S scope [1] && ((S.blk scope).locl 1 x && ((S.blk scope).slot 1 x && (S.gl n && (g.consts[k]? == some n && (chkE g (S.blk scope) (.slot 1) elt && askB g (S.blk scope) f x c)))))
    | _, _ => false)
  | _ => false
/-- return of its first -/
def lakB (g : Gt) (S : Sc) (f k : Nat) (sts : List Stmt) : Bool := match sts with
  | [st] => (match vRet st with
    | some (v, _) => (match vSub v with
      | some (l, i, _) => plainE i && (chkE g S (.lit (.int 0)) i && gapB g S f k l)
      | none => false)
    | none => false)
  | _ => false
section
variable {X : L2.Cx} {pins : List (Addr × Obj)} {σ : VS} {H : Hp} {s : Shared}
/-- a local's store, and what stands behind it -/
theorem store_hot {M : Model} {A : Around} {E : Value → Shared → Prop} {i : Nat} {x : Str} {v : V} {u : Value} {Q : Unit → Shared → Prop} (I : Inv X pins σ H s) (hN : X.N.Nodup) (hi : X.N[i]? = some x) (hk : X.env.scope.names.lookup x = some .local) (r : RelV v u)
    (h : ∀ s' m, Inv X pins (σ.set i (some v)) H s' → s'.heap.Ns X.env.locals m → m x = some u → s.toks ≤ s'.toks → Q () s') : wpAny M A (storeName X.env x u) Q E s := by
  obtain ⟨m, hn, hl⟩ := id I.loc
  have hcls : (X.env.scope.kind == .class || (X.env.scope.kind == .module && X.env.locals != X.env.globals)) = false := by rw [I.ok.kind]; rfl
  have hiσ : i < σ.length := by rw [I.len]; exact (List.getElem?_eq_some_iff.mp hi).1
  have cne := I.cne
  have tracked : ∀ {h' : Heap}, (∃ o, s.heap.get? X.env.locals = some o ∧ H X.env.locals = none) → Heap.SameBut X.env.locals s.heap h' → HOk X.prog X.w H h' := fun {h'} ha hs b ob e => by
    obtain ⟨_, _, hfree⟩ := ha
    refine (I.hok b ob e).stay (fun c w' hc q => (hs.2 c ?_).trans q) (fun _ q => q) fun _ _ q => q
    rintro rfl
    rcases hc with rfl | hc
    · rw [hfree] at e; cases e
    · rw [hfree] at hc; cases hc
  refine wpAny_storeName_local hk hn (fun h' hn' hs => ?_) hcls
  obtain ⟨oL, _, _, hoL, _⟩ := id hn
  refine h _ _ ⟨I.ok, I.os, I.bare, ⟨fun b o e n hb hx => ?_, fun b o e n hb hx => ?_, I.base.free, fun b o e hx => ?_, I.base.tups, I.base.frzs, I.base.tbls⟩, ⟨_, hn', fun j y v' e1 e2 e3 => ?_⟩, fun y c e => ?_, I.free, I.freeC, fun p hp => ?_, tracked ⟨oL, hoL, I.free⟩ hs, by simpa using I.len⟩ hn' (by simp) (Nat.le_succ _)
  · exact (hs.2 b (Nat.ne_of_lt (Nat.lt_of_lt_of_le (Heap.lt_size e) I.ok.above))).trans (I.base.keep b o e n hb hx)
  · obtain ⟨sl, e1⟩ := I.base.slot b o e n hb hx
    exact ⟨sl, (hs.2 b (Nat.ne_of_lt (Nat.lt_of_lt_of_le (Heap.lt_size e) I.ok.above))).trans e1⟩
  · obtain ⟨o', e1⟩ := I.base.there b o e hx
    exact ⟨o', (hs.2 b (Nat.ne_of_lt (Nat.lt_of_lt_of_le (Heap.lt_size e) I.ok.above))).trans e1⟩
  · by_cases hj : j = i
    · subst hj
      rw [hi] at e1; cases e1
      rw [List.getElem?_set_self hiσ] at e2
      cases e2
      exact ⟨u, r, .inl ⟨hk, by simp⟩⟩
    · rw [List.getElem?_set_ne (Ne.symm hj)] at e2
      obtain ⟨u', r', q⟩ := hl j y v' e1 e2 e3
      refine ⟨u', r', ?_⟩
      rcases q with ⟨k, e⟩ | ⟨k, c, e, z⟩
      · refine .inl ⟨k, ?_⟩
        have : y ≠ x := fun e => hj (nodup_ix hN e1 (e ▸ hi))
        simp [this, e]
      · exact .inr ⟨k, c, e, z.sameBut hs (cne y c e)⟩
  · obtain ⟨w', z⟩ := I.cell y c e
    exact ⟨w', z.sameBut hs (cne y c e)⟩
  · obtain ⟨e, n, ne, nf, d⟩ := I.pin p hp
    exact ⟨(hs.2 p.1 ne).trans e, n, ne, nf, d⟩
/-- a sign of a text, its token told -/
theorem item_hot {E : Value → Shared → Prop} {it : Addr} {ty : String} {x : Str} {t : Tok} {i : Nat} (hty : ty = "str_ascii_iterator" ∨ ty = "str_iterator") (I : Inv X pins σ H s) (hf : FpOk X pins H it) (st : s.heap.IsStrIter it ty x t i) (hg : i < x.cps.size) :
    wpAny (model X.prog X.w) X.A (pyNext (.ref it)) (fun r s1 => ∃ c, x.cps[i]? = some c ∧ r = some (.str ⟨#[c]⟩ s.toks) ∧ s1.toks = s.toks + 1 ∧ Inv X pins σ H s1 ∧ s1.heap.IsStrIter it ty x t (i + 1)) E s := by
  obtain ⟨f0, f1, f2, f3, f4, f5⟩ := hf
  have hx : x.cps[i]? = some x.cps[i] := Array.getElem?_eq_getElem hg
  rcases hty with e | e
  · subst e
    exact wpAny_pyNext_ascii_item st hx fun h' st' sb => ⟨_, hx, rfl, rfl, I.turned (t' := s.toks + 1) (fun b o hb e => (sb.2 b hb).trans e) f0 f1 f3 f4 f5, st'⟩
  · subst e
    exact wpAny_pyNext_wide_item st hx fun h' st' sb => ⟨_, hx, rfl, rfl, I.turned (t' := s.toks + 1) (fun b o hb e => (sb.2 b hb).trans e) f0 f1 f3 f4 f5, st'⟩
/-- the walk over a text begins -/
theorem iter_hot {iter : Expr} {te : TE} {R : L2.It → Hp → Prop} (he : PE X iter te) (h0 : 1 ≤ s.toks) (I : Inv X pins σ H s) (h : iStr te σ H R) :
    wpAny (model X.prog X.w) X.A (eval iter X.env) (fun v s1 => wpAny (model X.prog X.w) X.A (pyIter v) (fun itv s2 => 1 ≤ s2.toks ∧ ∃ it x t ty H', itv = .ref it ∧ (ty = "str_ascii_iterator" ∨ ty = "str_iterator") ∧ Inv X pins σ H' s2 ∧ s2.heap.IsStrIter it ty x t 0 ∧ FpOk X pins H' it ∧ R (Its x) H') X.xe s1) X.xe s := by
  refine wpAny_mono (PySem.wpAny_toks (he.run pins s σ H _ I h)) (fun v s1 q => ?_) fun _ _ z => z.2
  obtain ⟨hk, y, H1, I1, r1, x, ex, q⟩ := q
  subst ex
  obtain ⟨t, rfl⟩ := r1
  have h1 : 1 ≤ s1.toks := Nat.le_trans h0 hk
  cases ha : x.cps.all (· < 128)
  · exact wpAny_pyIter_wide ha ⟨h1, s1.heap.objs.size, x, t, "str_iterator", H1, rfl, .inr rfl, I1.kept (t' := s1.toks) (fun b ob e => Heap.get?_push_of_some _ e), ⟨_, Heap.get?_push_size _ rfl, rfl, rfl⟩, I1.fpOk (Nat.le_refl _) (I1.hok.fresh (Nat.le_refl _)), q⟩
  · exact wpAny_pyIter_ascii ha ⟨h1, s1.heap.objs.size, x, t, "str_ascii_iterator", H1, rfl, .inl rfl, I1.kept (t' := s1.toks) (fun b ob e => Heap.get?_push_of_some _ e), ⟨_, Heap.get?_push_size _ rfl, rfl, rfl⟩, I1.fpOk (Nat.le_refl _) (I1.hok.fresh (Nat.le_refl _)), q⟩
end
/-- a test, the name of the sign walked at holds a text whose token is known -/
def HotT (X : L2.Cx) (i0 : Nat) (x : Str) (ifs : List Expr) (t : TT) : Prop :=
  ∀ (pins : List (Addr × Obj)) (s : Shared) (σ : VS) (H : Hp) (Q : Bool → Hp → Prop) (m : Str → Option Value) (c u : Nat), Inv X pins σ H s → s.heap.Ns X.env.locals m → m x = some (.str ⟨#[c]⟩ u) → σ[i0]? = some (some (.str ⟨#[c]⟩)) → u ≠ 0 → u < s.toks → t σ H Q →
    wpAny (model X.prog X.w) X.A (forIn ifs true fun c r => if r = true then do let ok ← isTrue c X.env (eval c X.env); pure (ForInStep.yield ok) else pure (ForInStep.yield r)) (TP X pins σ Q) X.xe s
section
variable {X : L2.Cx}
theorem thnT {α : Type} {t : Sem α} {Q Q' : α → Shared → Prop} {M : Model} {A : Around} {E : Value → Shared → Prop} {s : Shared} {n : Nat} (hn : n ≤ s.toks) (h : wpAny M A t Q (fun _ _ => False) s) (hQ : ∀ a s, n ≤ s.toks → Q a s → Q' a s) : wpAny M A t Q' E s :=
  wpAny_mono (PySem.wpAny_toks_of hn h) (fun a s z => hQ a s z.1 z.2) fun _ _ z => False.elim z.2
theorem lcT_core {pins : List (Addr × Obj)} {s : Shared} {σ : VS} {H : Hp} {Q : VK} {elt iter : Expr} {ifs : List Expr} {scope : Scope} {own : List (Str × Nat)} {i0 : Nat} {x0 : Str} {p0 pos pos' : Pos} {te0 : TE} {g : TG} {tt : TT} {te : TE} {use : Option (Value → Sem Unit)} {Qf : Value → Shared → Prop}
    (hc : X.calm = true) (hN : X.N.Nodup) (h0 : 1 ≤ s.toks) (I : Inv X pins σ H s) (hi : PE X iter te0) (ok : BlkOk X.N X.env.scope scope own)
    (hi0 : X.N[i0]? = some x0) (hl0 : ∀ (s : Shared) (H : Hp) (C : Addr) (cl : List (Str × Addr)) (fp : List Addr), (X.blk s H scope (compEnvC scope cl C X.env) fp).env.scope.names.lookup x0 = some .local) (hg : ∀ v σ H Q, g v σ H Q → Q (σ.set i0 (some v)) H)
    (ht : ∀ (s : Shared) (H : Hp) (C : Addr) (cl : List (Str × Addr)) (fp : List Addr), HotT (X.blk s H scope (compEnvC scope cl C X.env) fp) i0 x0 ifs tt)
    (he : ∀ (s : Shared) (H : Hp) (C : Addr) (cl : List (Str × Addr)) (fp : List Addr), PE (X.blk s H scope (compEnvC scope cl C X.env) fp) elt te) (hs : ∀ x, foldedSetIterable iter X.env x = pure x)
    (h : tLc (iStr te0) g tt te (own.map (·.2)) σ H Q)
    (hRR : ∀ D C s' m H', Inv X pins σ H' s' → Q (.ref D) H' → s'.heap.Ns C m → FpOk X pins H' C → compPost (model X.prog X.w) X.A X.xe use Qf (.ref D) C (.ok .next) s') :
    wpAny (model X.prog X.w) X.A (comprehension (.ListComp elt [⟨.Name x0 p0, iter, ifs, 0⟩] scope pos) scope X.env pos' (newList []) false (eval iter X.env) use) Qf X.xe s := by
  have hfree : ∀ y ∈ scope.names, y.2 = .free → ∃ c, X.env.cells.lookup y.1 = some c := fun y hy e => by
    rcases ok.free y hy e with k | k
    · exact I.ok.has _ (.inl k)
    · exact I.ok.has _ (.inr k)
  refine wpAny_comprehension_free (use := use) rfl hs (closure_ok hfree) ok.kind (fun y hy e => by rw [ok.uniq y hy, e])
    (thn (iter_hot hi h0 I h) fun xv s1 hx => thn hx fun itv s2 h2 => ?_)
  obtain ⟨k2, it, xs, t, ty, H2, e, hty, I2, st2, f2, q⟩ := h2
  subst e
  have T : Turn X.prog X.w X.K (.Name x0 p0) (Its xs) [it] it (fun i h => h.IsStrIter it ty xs t i) := turn_str it xs t ty hty
  refine wpAny_newObj_type (newEnv_comp ?_) (by show 0 ≤ sizeLine; decide)
  generalize hD : s2.heap.objs.size = D
  have hDn : H2 D = none := I2.hok.fresh (Nat.le_of_eq hD)
  obtain ⟨W, ⟨m0, w0⟩, turn⟩ := q D hDn
  generalize hs3 : ({ s2 with heap := s2.heap.push { cls := .type "list", data := .seq ([] : List Value).toArray } } : Shared) = s3
  have k3 : 1 ≤ s3.toks := by rw [← hs3]; exact k2
  have I3 : Inv X pins σ (upd H2 D (.lst [])) s3 := by
    rw [← hs3]
    refine I2.laid (t' := s2.toks) (fun b o e => Heap.get?_push_of_some _ e) (Nat.le_of_eq hD) ⟨Nat.zero_le _, [], 0, .nil, ?_⟩
    rw [← hD]
    exact Heap.get?_push_size _ rfl
  have h3 : s3.heap = s2.heap.push { cls := .type "list", data := .seq ([] : List Value).toArray } := by rw [← hs3]
  have hitlt : it < s2.heap.objs.size := by
    obtain ⟨o, e, _⟩ := st2
    exact Heap.lt_size e
  have f3 : ∀ b ∈ [it], FpOk X pins (upd H2 D (.lst [])) b ∧ b < s3.heap.objs.size := fun b hb => by
    obtain rfl := List.mem_singleton.mp hb
    refine ⟨⟨?_, f2.2⟩, by rw [h3, Heap.size_push]; exact Nat.lt_succ_of_lt hitlt⟩
    rw [upd_ne (by rw [← hD]; exact Nat.ne_of_lt hitlt)]
    exact f2.1
  have st3 : s3.heap.IsStrIter it ty xs t 0 := T.keep 0 _ _ st2 fun b _ o e => by rw [h3]; exact Heap.get?_push_of_some _ e
  have I4 := block_start I3 ok hN f3
  have lk := hl0 s3 (upd H2 D (.lst [])) s3.heap.objs.size (cellsFrom (s3.heap.objs.size + 1) scope.names (cloFrom X.env.cells scope.names [])) [it]
  have pt := ht s3 (upd H2 D (.lst [])) s3.heap.objs.size (cellsFrom (s3.heap.objs.size + 1) scope.names (cloFrom X.env.cells scope.names [])) [it]
  have pe := he s3 (upd H2 D (.lst [])) s3.heap.objs.size (cellsFrom (s3.heap.objs.size + 1) scope.names (cloFrom X.env.cells scope.names [])) [it]
  show codeAny _ _ (.compStart (.ListComp elt [⟨.Name x0 p0, iter, ifs, 0⟩] scope pos) 0 (.ref it) (.ref D) (compEnvC scope (cellsFrom (s3.heap.objs.size + 1) scope.names (cloFrom X.env.cells scope.names [])) s3.heap.objs.size X.env)) (compPost (model X.prog X.w) X.A X.xe use Qf (.ref D) s3.heap.objs.size) { s3 with heap := pushCells (s3.heap.push { cls := .type "dict", data := .dict #[] }) scope.names }
  have nfp : ∀ b ∈ [it], (upd H2 D (.lst [])) b = none := fun b hb => (f3 b hb).1.1
  generalize hce : compEnvC scope (cellsFrom (s3.heap.objs.size + 1) scope.names (cloFrom X.env.cells scope.names [])) s3.heap.objs.size X.env = ce at I4 lk pt pe ⊢
  have cL : ce.locals = s3.heap.objs.size := by subst hce; rfl
  generalize hH3 : upd H2 D (.lst []) = H3 at I3 I4 lk pt pe w0 nfp f3
  generalize hs4 : ({ s3 with heap := pushCells (s3.heap.push { cls := .type "dict", data := .dict #[] }) scope.names } : Shared) = s4 at I4 ⊢
  have k4 : 1 ≤ s4.toks := by rw [← hs4]; exact k3
  have st4 : s4.heap.IsStrIter it ty xs t 0 := T.keep 0 _ _ st3 fun b _ o e => by rw [← hs4]; exact pushCells_keeps _ _ _ _ (Heap.get?_push_of_some _ e)
  have stat : ∀ {σ' : VS} {H' : Hp} {s' : Shared}, Inv (X.blk s3 H3 scope ce [it]) [] σ' H' s' → (∀ b ∈ [it], H' b = none) → ∀ b ∈ [it], FpOk (X.blk s3 H3 scope ce [it]) [] H' b := fun {σ' H' s'} I' hn b hb =>
    ⟨hn b hb, (I'.ok.exf b hb).1, I'.ok.exfs b hb, .inl hb, fun x c e => (I'.ok.exf b hb).2 x c e, fun p hp => absurd (show p ∈ ([] : List (Addr × Obj)) ++ [] from hp) (by simp)⟩
  have loop : codeAny (model X.prog X.w) X.A (.compLoop (.ListComp elt [⟨.Name x0 p0, iter, ifs, 0⟩] scope pos) 0 (.ref it) (.ref D) ce) (compPost (model X.prog X.w) X.A X.xe use Qf (.ref D) s3.heap.objs.size) s4 := by
    refine compLoop_any (fun n s' => 1 ≤ s'.toks ∧ ∃ i H', Inv (X.blk s3 H3 scope ce [it]) [] (wipe σ (own.map (·.2))) H' s' ∧ s'.heap.IsStrIter it ty xs t i ∧ (∀ b ∈ [it], H' b = none) ∧ W i n H') ?_ m0 ⟨k4, 0, H3, I4, st4, nfp, w0⟩
    rintro n s5 ⟨k5, i, H5, I5, st5, n5, w5⟩
    rcases turn i n H5 w5 with ⟨stop, qq⟩ | ⟨go, Nx, hNx, step⟩
    · have td := T.done (X.blk s3 H3 scope ce [it]) rfl rfl rfl hc i [] s5 _ H5 (fun _ _ => False) I5 (stat I5 n5) st5 stop
      refine thnF td fun r s6 ⟨hr, I6⟩ => ?_
      subst hr
      have I7 : Inv X pins σ H5 s6 := I3.call' (ch := [it]) I6.os I6.base I6.hok I6.bare fun b hb => ⟨(f3 b hb).1.2.2.2.1, (f3 b hb).1.2.1, (f3 b hb).1.2.2.2.2.1, (f3 b hb).1.2.2.2.2.2⟩
      have nC : H5 s3.heap.objs.size = none := by
        have z : H5 ce.locals = none := I6.free
        rw [cL] at z
        exact z
      obtain ⟨m, hn, _⟩ := I6.loc
      have hn : s6.heap.Ns ce.locals m := hn
      rw [cL] at hn
      exact hRR D s3.heap.objs.size s6 m H5 I7 qq hn (I3.fpOk (Nat.le_refl _) nC)
    · have ti := item_hot (E := fun _ _ => False) hty I5 (stat I5 n5 it (List.mem_singleton.mpr rfl)) st5 go
      refine thnF ti fun r s6 ⟨c, hxc, hr, k6, I6, st6⟩ => ?_
      subst hr
      obtain ⟨oi, e6, cc, dd⟩ := id st6
      have hno : ["enumerate", "zip", "dict_itemiterator", "dict_reverseitemiterator", "odict_iterator", "itertools.zip_longest", "itertools.pairwise"].contains ty = false := by
        rcases hty with e | e
        · rw [e]; decide
        · rw [e]; decide
      refine go_of e6 cc dd hno ?_
      have I7' := I6.pinned (stat I6 n5) (T.obj _ _ st6)
      have q7 := hg _ _ _ _ (step (.str ⟨#[c]⟩) H5 ⟨rfl, c, hxc, rfl⟩)
      refine wpAny_assign_Name (store_hot (x := x0) (v := V.str ⟨#[c]⟩) I7' hN hi0 lk (⟨_, rfl⟩ : RelV (.str ⟨#[c]⟩) (.str ⟨#[c]⟩ s5.toks)) fun s8 m8 I8 hn8 hm8 k8 => ?_)
      obtain ⟨hw8, q8⟩ := q7
      have k8' : s5.toks + 1 ≤ s8.toks := by rw [← k6]; exact k8
      refine thnT (n := 1) (by omega) (pt _ s8 _ H5 _ m8 c s5.toks I8 hn8 hm8 (List.getElem?_set_self (by rw [I6.len]; exact (List.getElem?_eq_some_iff.mp hi0).1)) (by omega) (by omega) q8) fun b s9 k9 ⟨H9, I9, q9⟩ => ?_
      have hb8 : wipe (wipe σ (own.map (·.2)) |>.set i0 (some (V.str ⟨#[c]⟩))) (own.map (·.2)) = wipe σ (own.map (·.2)) := hw8
      generalize hσ8 : (wipe σ (own.map (·.2))).set i0 (some (V.str ⟨#[c]⟩)) = σ8 at I8 I9 hb8 q9
      have fin : ∀ {s' : Shared} {H' : Hp}, 1 ≤ s'.toks → Inv (X.blk s3 H3 scope ce [it]) ([] ++ pinsAt [it] s6.heap) σ8 H' s' → Nx H' → ∃ m, m < n ∧ 1 ≤ s'.toks ∧ ∃ i H', Inv (X.blk s3 H3 scope ce [it]) [] (wipe σ (own.map (·.2))) H' s' ∧ s'.heap.IsStrIter it ty xs t i ∧ (∀ b ∈ [it], H' b = none) ∧ W i m H' := fun {s' H'} k' I' nx => by
        obtain ⟨m', hm, w'⟩ := hNx H' nx
        have pin' : ∀ b ∈ [it], ∀ o, s6.heap.get? b = some o → s'.heap.get? b = some o ∧ H' b = none := fun b hb o e =>
          let z := I'.pin (b, o) (List.mem_append_right _ (List.mem_append_right _ (mem_pinsAt hb e)))
          ⟨z.1, z.2.1⟩
        have hl : (wipe σ (own.map (·.2))).length = σ8.length := by rw [← hb8, wipe_length]
        refine ⟨m', hm, k', i + 1, H', (I'.unpinned (pins := [])).weak hl (fun j v e => ?_), T.keep (i + 1) _ _ st6 fun b hb o e => (pin' b hb o e).1, fun b hb => ?_, w'⟩
        · rw [← hb8] at e
          exact (wipe_some e).1
        · obtain ⟨o, e, _⟩ := T.obj _ _ st6 b hb
          exact (pin' b hb o e).2
      cases b with
      | false =>
        simp only [Bool.false_eq_true, if_false] at q9 ⊢
        exact fin k9 I9 q9
      | true =>
        simp only [if_true] at q9 ⊢
        refine thnT k9 (pe.run _ s9 σ8 H9 _ I9 q9) fun z s10 k10 ⟨yv, H10, I10, r10, acc, hD10, hz10, nx⟩ => ?_
        exact thnT k10 (app_ok (Q := fun _ s11 => ∃ H11, Inv (X.blk s3 H3 scope ce [it]) ([] ++ pinsAt [it] s6.heap) σ8 H11 s11 ∧ Nx H11) (E := fun _ _ => False) (X := X.blk s3 H3 scope ce [it]) I10 hD10 hz10 r10 fun s11 I11 => ⟨_, I11, nx⟩) fun _ s11 k11 ⟨H11, I11, nx⟩ => fin k11 I11 nx
  exact codeAny_compStart_list loop (T.self X.A 0 _ _ _ st4 loop)
theorem pet_lcT {elt iter : Expr} {ifs : List Expr} {scope : Scope} {own : List (Str × Nat)} {i0 : Nat} {x0 : Str} {p0 pos : Pos} {te0 : TE} {g : TG} {tt : TT} {te : TE}
    (hc : X.calm = true) (hN : X.N.Nodup) (hi : PE X iter te0) (ok : BlkOk X.N X.env.scope scope own)
    (hi0 : X.N[i0]? = some x0) (hl0 : ∀ (s : Shared) (H : Hp) (C : Addr) (cl : List (Str × Addr)) (fp : List Addr), (X.blk s H scope (compEnvC scope cl C X.env) fp).env.scope.names.lookup x0 = some .local) (hg : ∀ v σ H Q, g v σ H Q → Q (σ.set i0 (some v)) H)
    (ht : ∀ (s : Shared) (H : Hp) (C : Addr) (cl : List (Str × Addr)) (fp : List Addr), HotT (X.blk s H scope (compEnvC scope cl C X.env) fp) i0 x0 ifs tt)
    (he : ∀ (s : Shared) (H : Hp) (C : Addr) (cl : List (Str × Addr)) (fp : List Addr), PE (X.blk s H scope (compEnvC scope cl C X.env) fp) elt te) (hs : ∀ x, foldedSetIterable iter X.env x = pure x) :
    PET X (.ListComp elt [⟨.Name x0 p0, iter, ifs, 0⟩] scope pos) (tLc (iStr te0) g tt te (own.map (·.2))) := by
  intro pins s σ H Q h0 I h
  rw [eval_ListComp]
  refine lcT_core hc hN h0 I hi ok hi0 hl0 hg ht he hs h fun D C s' m H' I' q hn f => ⟨m, hn, fun h'' sb => ?_⟩
  obtain ⟨f0, f1, f2, f3, f4, f5⟩ := f
  exact ⟨.ref D, H', I'.turned (t' := s'.toks) (fun b o hb e => (sb.2 b hb).trans e) f0 f1 f3 f4 f5, rfl, q⟩
theorem pet_imp {e : Expr} {t t' : TE} (h : PET X e t) (k : ∀ σ H Q, t' σ H Q → t σ H Q) : PET X e t' := fun pins s σ H Q h0 I q => h pins s σ H Q h0 I (k σ H Q q)
/-- an expression, the name of the sign walked at holds a text whose token is known -/
def HE (X : L2.Cx) (i0 : Nat) (x : Str) (e : Expr) (t : TE) : Prop :=
  ∀ (pins : List (Addr × Obj)) (s : Shared) (σ : VS) (H : Hp) (Q : VK) (m : Str → Option Value) (c u : Nat), Inv X pins σ H s → s.heap.Ns X.env.locals m → m x = some (.str ⟨#[c]⟩ u) → σ[i0]? = some (some (.str ⟨#[c]⟩)) → u ≠ 0 → u < s.toks → t σ H Q →
    wpAny (model X.prog X.w) X.A (eval e X.env) (EP X pins σ Q) X.xe s
variable {G : Ge} {W : WX} {i0 : Nat} {x0 : Str}
theorem hot_test {a : Expr} {m : En → R} (hK : X.K = G.K) (ha : HE X i0 x0 a (tE G W m)) (he : ∀ whole, isTrue a X.env whole = (do let v ← whole; standAt a.pos; holding [v] (truthy v))) : HotT X i0 x0 [a] (tT G W m) := by
  intro pins s σ H Q mm c u I hn hm hσ h0 hu h
  have h2 : tE G W m σ H (fun x H' => ∃ k, TruV X.K x H' k ∧ Q k H') := by rw [hK]; exact h.tru
  exact wpAny_tests_one (isTrue_plain (thn (ha pins s σ H _ mm c u I hn hm hσ h0 hu h2) fun v s1 ⟨x, H1, I1, r1, q1⟩ => tru_ok pins s1 σ H1 x v Q I1 r1 q1) (he _))
theorem repl_map (z : Nat) : ∀ s : List Nat, PySem.StrLaws.replL [63] [z] s = s.map fun x => if x = 63 then z else x
  | [] => PySem.StrLaws.replL_nil
  | c :: r => by
    by_cases h : c = 63
    · subst h
      rw [PySem.StrLaws.replL_hit (by simp) (by simp)]
      show [z] ++ PySem.StrLaws.replL [63] [z] r = _
      rw [repl_map z r]
      simp
    · rw [PySem.StrLaws.replL_miss (by simpa using h), repl_map z r]
      simp [h]
theorem repl_sV (z : Nat) (s : List Nat) : Txt.replace (sV s) ⟨#[63]⟩ ⟨#[z]⟩ = sV (s.map fun x => if x = 63 then z else x) := by
  have e := PySem.StrLaws.replace_list (x := sV s) (y := ⟨#[63]⟩) (z := ⟨#[z]⟩) (by decide)
  have e2 : (Txt.replace (sV s) ⟨#[63]⟩ ⟨#[z]⟩).cps.toList = s.map fun x => if x = 63 then z else x := e.trans (repl_map z s)
  rw [← e2, sV_of]
theorem he_repl {it : Nat} {tx : Str} {j0 : Nat} {p1 p2 c0 ap pos : Pos} (hit : X.N[it]? = some tx) (hvt : Vis X.env.scope tx) (hdt : (tx == ("__debug__" : Str)) = false) (hct : (tx == ("__classdict__" : Str)) = false)
    (hk0 : X.env.scope.names.lookup x0 = some .local) (hd0 : (x0 == ("__debug__" : Str)) = false) (hline : (ap.endLine == pos.line) = true) (hbase : attributeBase (.Name tx p1) "replace" X.env (eval (.Name tx p1) X.env) = eval (.Name tx p1) X.env) :
    HE X i0 x0 (.Call (.Attribute (.Name tx p1) "replace" ap) [.Constant (.str ⟨#[63]⟩) j0 c0, .Name x0 p2] [] pos) (tE G W fun ρ => (getS ρ it).bndS fun t => (getS ρ i0).bndS fun f => repF t f) := by
  intro pins s σ H Q m c u I hn hm hσ h0 hu h
  obtain ⟨F, ρ, E, p⟩ := h
  try dsimp only at p
  unfold getS at p
  split at p
  · rename_i t ht
    replace p : Post G F W σ H Q (R.bndS (match ρ[i0]? with
      | some (some (Sl.im d)) => .ok d
      | some (some (Sl.mu xs)) => .okm xs
      | _ => .bad) fun f => repF t f) := p
    split at p
    · rename_i f hf
      replace p : Post G F W σ H Q (repF t f) := p
      obtain ⟨vt, e1, r1⟩ := E.slot _ _ ht
      obtain ⟨vf, e2, r2⟩ := E.slot _ _ hf
      replace r1 : Rep G (sol H F) vt t := r1
      replace r2 : Rep G (sol H F) vf f := r2
      rw [hσ] at e2
      obtain rfl := Option.some.inj (Option.some.inj e2)
      unfold repF at p
      split at p
      · rename_i s' z
        split at p
        · rename_i hz
          obtain ⟨hl, hz⟩ := hz
          cases r1 with
          | str _ sok =>
            have hcz : c = z := by
              generalize hv : V.str ⟨#[c]⟩ = v2 at r2
              cases r2 with
              | str _ _ =>
                have e3 : (⟨#[c]⟩ : Str) = sV [z] := V.str.inj hv
                have e4 : (⟨#[c]⟩ : Str).cps.toList = (sV [z]).cps.toList := by rw [e3]
                exact List.head_eq_of_cons_eq e4
            subst hcz
            have hcs : c < 1114112 := by
              generalize hv : V.str ⟨#[c]⟩ = v2 at r2
              cases r2 with
              | str _ sk => exact sk.ch c (by simp)
            refine PySem.Call_method2 hbase rfl hline (raw_name hit hvt I e1 (fun v r => ?_) hdt hct)
            obtain ⟨tk, e⟩ := r
            subst e
            refine ⟨"str", _, PySem.F.plainAttrs_str, PySem.F.slot_str_replace, PySem.F.type_str_replace, typeIs_str _ _ _, (fun _ e => nomatch e), Calls.callWith_builtin rfl (Calls.evalArgs_plain (Calls.spliced_cons ?_))⟩
            refine Calls.Constant_str (Calls.spliced_cons (wpAny_Name (wpAny_loadName_local I.ok.kind hk0 hn hm ?_) hd0))
            refine Calls.spliced_nil ?_
            refine PySem.SC.replace (by show s.toks ≠ 0; omega) h0 (by show s.toks ≠ u; omega) ?_ ?_ fun t' k => ⟨.str (Txt.replace (sV s') ⟨#[63]⟩ ⟨#[c]⟩), H, I.tok k, ⟨t', rfl⟩, ?_⟩
            · refine beq_eq_false_iff_ne.mpr fun e => hz ?_
              have e4 : (⟨#[63]⟩ : Str).cps.toList = (⟨#[c]⟩ : Str).cps.toList := by rw [e]
              exact (List.head_eq_of_cons_eq e4).symm
            · rw [sV_len]
              show s'.length + (s'.length + 1) * 1 ≤ 16777216
              omega
            · rw [repl_sV]
              refine Post.ok (d := .str _) p (.str _ ⟨by rw [List.length_map, sizeLine_eq]; omega, fun y hy => ?_⟩)
              obtain ⟨y', hy', e⟩ := List.mem_map.mp hy
              split at e
              · rw [← e]; exact hcs
              · rw [← e]; exact sok.ch _ hy'
        · exact p.elim
      · exact p.elim
    · exact p.elim
    · exact p.elim
  · exact p.elim
  · exact p.elim
/-- a def called with it -/
theorem he_call {g : Gt} {C : Cal} {S : Sc} {a : Expr} {m : En → R} {k : Nat} {x : Str} {p pos : Pos} (c : CtxE g G C W X S) (hg : S.gl x = true) (hk : g.fns[k]? = some x) (ha : HE X i0 x0 a (tE G W m)) (hst : notStar a = true) :
    HE X i0 x0 (.Call (.Name x p) [a] [] pos) (tE G W fun ρ => (consL (m ρ) (.ok [])).bnd (C.call k)) := by
  intro pins s σ H Q mm cc u I hn hm hσ h0 hu h
  obtain ⟨fa, f1, f2⟩ := c.fns k x hk
  obtain ⟨lvl, fd, ps, np, Fk, hr, hkp, hb, hl, hnm⟩ := (c.call k fa f1).ex
  obtain ⟨g1, g2, g3⟩ := gl_in c hg
  refine wpAny_Call_Name_kw (ld_glob I g1 f2 ?_ g2)
  have ht := tAs.call (fun _ ds _ => hl ds) hnm h
  refine PySem.W.callWith_K (h₀ := X.base) I.ok.mod.kin hkp (thn (Q := AP X pins σ fun vs H1 => spD G np (C.call k) (vs ++ []) H1 Q (WE W σ)) ?_ fun us s2 ⟨vs, H2, I2, r, q⟩ => ⟨I2.kIn, ?_⟩) (star_ok hst) rfl
  rotate_left
  · exact run_fnSD (E := WE W) Fk hr hb .nil (passAt c.tk σ) I2 r q
  · have ht2 : tE G W m σ H (fun v H1 => (fun vs H1 => spD G np (C.call k) (vs ++ []) H1 Q (WE W σ)) [v] H1) := by
      obtain ⟨F, ρ, E, p⟩ := ht
      refine ⟨F, ρ, E, ?_⟩
      replace p : PostL G F W σ H (fun vs H1 => spD G np (C.call k) (vs ++ []) H1 Q (WE W σ)) (consL (m ρ) (.ok [])) := p
      cases hmr : m ρ with
      | ok d => rw [hmr] at p; exact fun v H' e r => p [v] H' e (.cons r .nil)
      | okm xs => rw [hmr] at p; exact p.elim
      | exc c => rw [hmr] at p; exact p
      | bad => rw [hmr] at p; exact p.elim
    have hst2 : starEach [a] X.env = (false, eval a X.env) :: starEach [] X.env := star_ok hst
    rw [hst2]
    show wpAny _ _ (spliced ((false, eval a X.env) :: backTo pos (starEach [] X.env))) _ _ s
    refine Calls.spliced_cons (thn (ha pins s σ H _ mm cc u I hn hm hσ h0 hu ht2) fun v s1 ⟨y, H1, I1, r1, q1⟩ => Calls.spliced_nil ⟨[y], H1, I1, .cons r1 .nil, q1⟩)
theorem iStr_of {k : Nat} {C : Cal} {σ : VS} {H : Hp} {K : L2.It → Hp → Prop} (h : tI G W true (fun _ => R.toW true (match C.glob k with | some (.str s) => R.ok (.str s) | _ => .bad) walkD) σ H K) : iStr (tE G W fun _ => match C.glob k with
    | some d => .ok d
    | none => .bad) σ H K := by
  obtain ⟨F, ρ, E, p⟩ := h
  refine ⟨F, ρ, E, ?_⟩
  try dsimp only at p
  split at p
  · rename_i s hs
    rw [hs]
    replace p : PostK G F W true σ H K (.ok (s.map fun c => .str [c])) := p
    intro v H' e r
    cases r with
    | str _ sk => exact ⟨sV s, rfl, p _ H' e (wlk_str sk) (by rw [List.length_map]; exact sk.len)⟩
  · exact p.elim
theorem pet_ixD {a b : Expr} {ma mb : En → R} {pos : Pos} (hK : X.K = G.K) (ha : PET X a (tE G W ma)) (hb : PE X b (tE G W mb)) (hs : PlainIx b) : PET X (.Subscript a b pos) (tE G W fun ρ => (ma ρ).bnd fun x => (mb ρ).bnd fun y => ixD x y) := by
  refine pet_imp (t := tOp (r2D G W ixD) (tE G W ma) (tE G W mb)) ?_ tE.bin'
  intro pins s σ H Q h0 I h
  exact Subscript_ (thn (ha pins s σ H _ h0 I h) fun v s1 ⟨x, H1, I1, r1, q1⟩ => thn (hb.run pins s1 σ H1 _ I1 q1) fun u s2 ⟨y, H2, I2, r2, q2⟩ => ixr hK a b pins s2 σ H2 x y v u Q I2 r1 r2 q2 (hs _ _))
variable {g : Gt} {C : Cal} {S : Sc}
def lakI (C : Cal) (k : Nat) : En → Wk := fun _ => R.toW true (match C.glob k with | some (.str s) => R.ok (.str s) | _ => .bad) walkD
def lakQ (C : Cal) (f : Nat) : En → R := fun ρ => (consL ((getS ρ 0).bndS fun t => (getS ρ 1).bndS fun z => repF t z) (.ok [])).bnd (C.call f)
theorem he_repB {x : Str} {a : Expr} (c : CtxE g G C W X S) (hl : S.locl 1 x = true) (hx : S.slot 1 x = true) (h : repB S x a = true) : HE X 1 x a (tE G W fun ρ => (getS ρ 0).bndS fun t => (getS ρ 1).bndS fun f => repF t f) := by
  unfold repB at h
  split at h
  · rename_i o n ap q y cp hv
    obtain rfl := vMe_eq hv
    obtain ⟨h1, h⟩ := and2 h
    obtain ⟨h2, h⟩ := and2 h
    obtain ⟨h3, h⟩ := and2 h
    obtain ⟨h4, h5⟩ := and2 h
    obtain rfl := eq_of_beq h1
    cases ho : vName o with
    | none => rw [ho] at h3; cases h3
    | some z =>
      obtain ⟨tx, p1⟩ := z
      rw [ho] at h3
      obtain rfl := vName_eq ho
      cases hy : vName y with
      | none => rw [hy] at h5; cases h5
      | some z =>
        obtain ⟨y', p2⟩ := z
        rw [hy] at h5
        obtain rfl := vName_eq hy
        obtain rfl := eq_of_beq h5
        cases hq : vConst q with
        | none => rw [hq] at h4; cases h4
        | some z =>
          obtain ⟨cc, j0, c0⟩ := z
          rw [hq] at h4
          obtain rfl := vConst_eq hq
          cases cc with
          | str w =>
            obtain rfl := eq_of_beq h4
            obtain ⟨s1, s2, s3, s4⟩ := slot_in c h3
            obtain ⟨t1, t2, t3, t4⟩ := slot_in c hx
            have hk0 : X.env.scope.names.lookup y' = some .local := by
              unfold Sc.locl at hl
              obtain ⟨_, l2⟩ := and2 hl
              rw [c.hsc]
              exact eq_of_beq l2
            exact he_repl s1 s2 s3 s4 hk0 t3 h2 (base_ok rfl)
          | _ => cases h4
  · cases h
theorem hot_askB {f : Nat} {x : Str} {e : Expr} (c : CtxE g G C W X S) (hl : S.locl 1 x = true) (hx : S.slot 1 x = true) (h : askB g S f x e = true) : HotT X 1 x [e] (tT G W (lakQ C f)) := by
  unfold askB at h
  split at h
  · rename_i n p a q hv
    obtain rfl := vFn_eq hv
    obtain ⟨h1, h⟩ := and2 h
    obtain ⟨h2, h⟩ := and2 h
    obtain ⟨h3, h4⟩ := and2 h
    exact hot_test c.hK (he_call c h1 (eq_of_beq h2) (he_repB c hl hx h4) h3) (val_ok rfl)
  · cases h
theorem pet_gapB {f k : Nat} {e : Expr} (c : CtxE g G C W X S) (h : gapB g S f k e = true) : PET X e (tE G W (compM (lakI C k) (lakQ C f) (fun ρ => getS ρ 1) (.one 1) [1])) := by
  unfold gapB at h
  split at h
  · rename_i elt tg iter cc scope p hv
    obtain rfl := vLc_eq hv
    split at h
    · rename_i x p0 n p1 ht hi
      obtain rfl := vName_eq ht
      obtain rfl := vName_eq hi
      obtain ⟨h1, h⟩ := and2 h
      obtain ⟨h2, h⟩ := and2 h
      obtain ⟨h3, h⟩ := and2 h
      obtain ⟨h4, h⟩ := and2 h
      obtain ⟨h5, h⟩ := and2 h
      obtain ⟨h6, h7⟩ := and2 h
      have hi0 : X.N[1]? = some x := by
        have z := h2
        unfold Sc.locl at z
        obtain ⟨z1, _⟩ := and2 z
        rw [c.hN]
        exact eq_of_beq z1
      refine pet_imp (pet_lcT (g := gD G (.one 1)) c.calm c.nd (pe_globD (W := W) c h4 (eq_of_beq h5)) (blk_in c.hN c.hsc h1) hi0 (fun s H A cl fp => ?_) (fun v σ H Q h => ?_) (fun s H A cl fp => hot_askB (c.blk (s := s) (H := H) (A := A) (cl := cl) (fp := fp)) h2 h3 h7) (fun s H A cl fp => (sndE (.slot 1) elt W0 _ (S.blk scope) c.blk h6).1) (folded_ok rfl)) fun σ H Q h => ?_
      · have z := h2
        unfold Sc.locl at z
        obtain ⟨_, z2⟩ := and2 z
        rw [(c.blk (s := s) (H := H) (A := A) (cl := cl) (fp := fp)).hsc]
        exact eq_of_beq z2
      · obtain ⟨F, ρ, d, ρ', E, r, e, k⟩ := h
        cases e
        exact k _ (E.putD r 1) (fun vs hv => wipe_set (hv 1 (by simp [tgs]))) fun j hj => List.getElem?_set_ne fun e => hj (by simp [tgs, e])
      · obtain ⟨F, ρ, E, p⟩ := h
        have t := tLcD (own := [1]) (tgm := .one 1) (fun i hi => hi) E p
        exact iStr_of t
    · cases h
  · cases h
def lakF (C : Cal) (f k : Nat) (ρ : En) : Fl := (lakM C f k ρ).ret ρ
theorem psst_lak {f k : Nat} {sts : List Stmt} {Fc : Addr → Prop} {B : Hp} (c : CtxE g G C W X S) (h : lakB g S f k sts = true) : PSsT X sts (tS G W Fc B (lakF C f k)) := by
  unfold lakB at h
  split at h
  · rename_i st
    split at h
    · rename_i v p hv
      obtain rfl := vRet_eq hv
      split at h
      · rename_i l i p2 hs
        obtain rfl := vSub_eq hs
        obtain ⟨h1, h⟩ := and2 h
        obtain ⟨h2, h3⟩ := and2 h
        have he : PET X (.Subscript l i p2) (tE G W (lakM C f k)) := pet_ixD c.hK (pet_gapB c h3) (sndE (.lit (.int 0)) i W X S c h2).1 (plain_ok h1)
        intro pins s σ H D h0 I q
        obtain ⟨ρ, ⟨F, St⟩, p⟩ := q
        replace p : PFl G Fc W B D ((lakM C f k ρ).ret ρ) := p
        refine wpAny_execs_cons (wpAny_Return_some (thn (he pins s σ H D.rt h0 I ⟨F, ρ, St.env, ?_⟩) fun v s1 ⟨x, H1, I1, r1, q1⟩ => ⟨x, σ, H1, I1, r1, q1⟩))
        cases hr : lakM C f k ρ with
        | ok d => rw [hr] at p; exact fun v H' e r => p v H' (St.sm.trans e) (r.up (sol_anti St.up))
        | okm xs => rw [hr] at p; exact p.elim
        | exc c => rw [hr] at p; exact fun H' e => p σ H' ⟨F, St.grow e⟩
        | bad => rw [hr] at p; exact p
      · cases h
    · cases h
  · cases h
theorem he_repS {t0 z0 : Nat} {x : Str} {a : Expr} (c : CtxE g G C W X S) (hl : S.locl z0 x = true) (hx : S.slot z0 x = true) (h : repT S t0 x a = true) : HE X z0 x a (tE G W fun ρ => (getS ρ t0).bndS fun t => (getS ρ z0).bndS fun f => repF t f) := by
  unfold repT at h
  split at h
  · rename_i o n ap q y cp hv
    obtain rfl := vMe_eq hv
    obtain ⟨h1, h⟩ := and2 h
    obtain ⟨h2, h⟩ := and2 h
    obtain ⟨h3, h⟩ := and2 h
    obtain ⟨h4, h5⟩ := and2 h
    obtain rfl := eq_of_beq h1
    cases ho : vName o with
    | none => rw [ho] at h3; cases h3
    | some z =>
      obtain ⟨tx, p1⟩ := z
      rw [ho] at h3
      obtain rfl := vName_eq ho
      cases hy : vName y with
      | none => rw [hy] at h5; cases h5
      | some z =>
        obtain ⟨y', p2⟩ := z
        rw [hy] at h5
        obtain rfl := vName_eq hy
        obtain rfl := eq_of_beq h5
        cases hq : vConst q with
        | none => rw [hq] at h4; cases h4
        | some z =>
          obtain ⟨cc, j0, c0⟩ := z
          rw [hq] at h4
          obtain rfl := vConst_eq hq
          cases cc with
          | str w =>
            obtain rfl := eq_of_beq h4
            obtain ⟨s1, s2, s3, s4⟩ := slot_in c h3
            obtain ⟨t1, t2, t3, t4⟩ := slot_in c hx
            have hk0 : X.env.scope.names.lookup y' = some .local := by
              unfold Sc.locl at hl
              obtain ⟨_, l2⟩ := and2 hl
              rw [c.hsc]
              exact eq_of_beq l2
            exact he_repl s1 s2 s3 s4 hk0 t3 h2 (base_ok rfl)
          | _ => cases h4
  · cases h
theorem getS_or (ρ : En) (i : Nat) : (∃ d, getS ρ i = .ok d) ∨ (∃ xs, getS ρ i = .okm xs) ∨ getS ρ i = .bad := by
  unfold getS
  split
  · exact .inl ⟨_, rfl⟩
  · exact .inr (.inl ⟨_, rfl⟩)
  · exact .inr (.inr rfl)
theorem he_repT {t0 z0 : Nat} {x : Str} {a : Expr} (c : CtxE g G C W X S) (hl : S.locl z0 x = true) (hx : S.slot z0 x = true) (h : repT S t0 x a = true) : HE X z0 x a (tE G W (ev C (.me .replace (.slot t0) (.cons (.lit (.str [63])) (.cons (.slot z0) .nil))))) := by
  intro pins s σ H Q m cc u I h1 h2 h3 h4 h5 q
  refine he_repS c hl hx h pins s σ H Q m cc u I h1 h2 h3 h4 h5 ?_
  obtain ⟨F, ρ, E, p⟩ := q
  refine ⟨F, ρ, E, ?_⟩
  replace p : Post G F W σ H Q ((getS ρ t0).bnd fun x => meR .replace x (consW (.ok (.str [63])) (consW (getS ρ z0) (.ok [])))) := p
  show Post G F W σ H Q ((getS ρ t0).bndS fun t => (getS ρ z0).bndS fun f => repF t f)
  have key : ∀ t f, Post G F W σ H Q (meR .replace t (.ok [.str [63], f])) → Post G F W σ H Q (repF t f) := fun t f w => by
    unfold meR at w
    split at w
    · have e : meD .replace t [.str [63], f] = repF t f := by
        cases t <;> first | exact if_pos rfl | rfl
      exact e ▸ w
    · exact w.elim
  have bad : ∀ t xs, repF t (.lst xs) = .bad := fun t xs => by cases t <;> rfl
  have bad2 : ∀ f xs, repF (.lst xs) f = .bad := fun f xs => by cases f <;> rfl
  rcases getS_or ρ t0 with ⟨t, e⟩ | ⟨xs, e⟩ | e
  · rw [e] at p ⊢
    rcases getS_or ρ z0 with ⟨f, e2⟩ | ⟨ys, e2⟩ | e2
    · rw [e2] at p ⊢; exact key t f p
    · rw [e2] at p ⊢
      have := key t (.lst ys) p
      rw [bad] at this
      exact this
    · rw [e2] at p ⊢
      unfold R.bnd meR at p
      dsimp only at p
      split at p <;> exact p.elim
  · rw [e] at p ⊢
    rcases getS_or ρ z0 with ⟨f, e2⟩ | ⟨ys, e2⟩ | e2
    · rw [e2] at p
      have := key (.lst xs) f p
      rw [bad2] at this
      exact this
    · rw [e2] at p
      have := key (.lst xs) (.lst ys) p
      rw [bad2] at this
      exact this
    · rw [e2] at p
      unfold R.bnd meR at p
      dsimp only at p
      split at p <;> exact p.elim
  · rw [e] at p; exact p.elim
/-! ### under a premise on the state -/
def PEP (P : Shared → VS → Prop) (X : L2.Cx) (e : Expr) (t : TE) : Prop := ∀ (pins : List (Addr × Obj)) (s : Shared) (σ : VS) (H : Hp) (Q : VK), P s σ → Inv X pins σ H s → t σ H Q → wpAny (model X.prog X.w) X.A (eval e X.env) (EP X pins σ Q) X.xe s
def PTP (P : Shared → VS → Prop) (X : L2.Cx) (e : Expr) (t : TT) : Prop := ∀ (pins : List (Addr × Obj)) (s : Shared) (σ : VS) (H : Hp) (Q : Bool → Hp → Prop), P s σ → Inv X pins σ H s → t σ H Q → wpAny (model X.prog X.w) X.A (isTrue e X.env (eval e X.env)) (TP X pins σ Q) X.xe s
def Ph (X : L2.Cx) (i0 : Nat) (x : Str) (s : Shared) (σ : VS) : Prop := ∃ (m : Str → Option Value) (c u : Nat), s.heap.Ns X.env.locals m ∧ m x = some (.str ⟨#[c]⟩ u) ∧ σ[i0]? = some (some (.str ⟨#[c]⟩)) ∧ u ≠ 0 ∧ u < s.toks
def Pt (s : Shared) (_ : VS) : Prop := 1 ≤ s.toks
variable {P : Shared → VS → Prop} {a b : Expr} {ma mb : En → R} {pos : Pos}
theorem HE.p {i0 : Nat} {x : Str} {e : Expr} {t : TE} (h : HE X i0 x e t) : PEP (Ph X i0 x) X e t := fun pins s σ H Q ⟨m, c, u, h1, h2, h3, h4, h5⟩ I q => h pins s σ H Q m c u I h1 h2 h3 h4 h5 q
theorem PTP.hot {i0 : Nat} {x : Str} {e : Expr} {t : TT} (h : PTP (Ph X i0 x) X e t) : HotT X i0 x [e] t := fun pins s σ H Q m c u I h1 h2 h3 h4 h5 q => wpAny_tests_one (h pins s σ H Q ⟨m, c, u, h1, h2, h3, h4, h5⟩ I q)
theorem pep_mod (ha : PEP P X a (tE G W ma)) (hb : PE X b (tE G W mb)) : PEP P X (.BinOp a .Mod b pos) (tE G W fun ρ => (ma ρ).bnd fun x => (mb ρ).bnd fun y => binD .mod x y) := by
  intro pins s σ H Q hP I h
  have h2 := tE.bin ok_mod σ H Q h
  exact wpAny_BinOp (thn (ha pins s σ H _ hP I h2) fun v s1 ⟨x, H1, I1, r1, q1⟩ => thn (hb.run pins s1 σ H1 _ I1 q1) fun u s2 ⟨y, H2, I2, r2, q2⟩ => op_mod pins s2 σ H2 x y v u Q I2 r1 r2 q2)
theorem ptp_cmp (op : COp) (hu : X.A.units + 65 < cLine) (hK : X.K = G.K) (ha : PEP P X a (tE G W ma)) (hb : PE X b (tE G W mb)) (hm : behindInMarks (cOf op) b = false) : PTP P X (.Compare a [cOf op] [b] pos) (tT G W fun ρ => (ma ρ).bnd fun x => (mb ρ).bnd fun y => cmpR op x y) := by
  intro pins s σ H Q hP I h
  have h2 := tE.bin' σ H _ (tT.val (fun ρ => bin_isB (isB_cmp op) ρ) h)
  refine wpAny_isTrue_Compare1 (thn (ha pins s σ H _ hP I h2) fun v s1 ⟨x, H1, I1, r1, q1⟩ => thn (hb.run pins s1 σ H1 _ I1 q1) fun u s2 ⟨y, H2, I2, r2, q2⟩ =>
    thn (cor op hu hK pins s2 σ H2 x y v u _ I2 r1 r2 q2) fun c s3 ⟨z, H3, I3, r3, k, e, q3⟩ => ?_) hm
  subst e
  cases r3
  exact wpAny_truthy_bool ⟨H3, I3, q3⟩
theorem ptp_not (ha : PTP P X a (tT G W ma)) : PTP P X (.UnaryOp .Not a pos) (tT G W fun ρ => (ma ρ).bnd notD) := by
  intro pins s σ H Q hP I h
  refine isTrue_not (ha pins s σ H (fun c H1 => Q (!c) H1) hP I ?_)
  obtain ⟨F, ρ, E, p⟩ := h
  try dsimp only at p
  refine ⟨F, ρ, E, PostT.w p _ (fun d _ p' => ?_) fun d t H' et e p' => ?_⟩
  · unfold notD at p'
    split at p'
    · rename_i t et; exact ⟨t, et⟩
    · exact p'.elim
  · unfold notD at p'
    rw [et] at p'
    obtain ⟨k, e2, p2⟩ := p'
    obtain rfl : (!t) = k := Option.some.inj e2
    exact p2 _ (Same.refl _)
theorem ptp_or {rest : List Expr} (ha : PTP P X a (tT G W ma)) (hb : PW X (.BoolOp .Or (b :: rest) pos) (tT G W mb)) : PTP P X (.BoolOp .Or (a :: b :: rest) pos) (tT G W fun ρ => (ma ρ).bnd fun x => orR x (mb ρ)) := by
  intro pins s σ H Q hP I h
  have h2 : tT G W ma σ H (fun c H1 => if c = true then Q true H1 else tT G W mb σ H1 Q) := by
    obtain ⟨F, ρ, E, p⟩ := h
    try dsimp only at p
    refine ⟨F, ρ, E, PostT.w p _ (fun d _ p' => ?_) fun d t H' et e p' => ?_⟩
    · unfold orR at p'
      split at p'
      · exact ⟨true, rfl⟩
      · exact ⟨false, rfl⟩
      · exact p'.elim
    · unfold orR at p'
      split at p'
      · obtain rfl : true = t := Option.some.inj et
        rw [if_pos rfl]
        obtain ⟨k, e2, p2⟩ := p'
        obtain rfl : true = k := Option.some.inj e2
        exact p2 _ (Same.refl _)
      · obtain rfl : false = t := Option.some.inj et
        rw [if_neg Bool.false_ne_true]
        exact ⟨F, ρ, E.up e, p'⟩
      · exact p'.elim
  refine isTrue_or (thn (ha pins s σ H _ hP I h2) fun c s1 ⟨H1, I1, q1⟩ => ?_)
  cases c with
  | true => simp only [if_true] at q1 ⊢; exact ⟨H1, I1, q1⟩
  | false => simp only [Bool.false_eq_true, if_false] at q1 ⊢; exact hb.run _ pins s1 σ H1 Q I1 q1
theorem ptp_val (hK : X.K = G.K) (ha : PEP P X a (tE G W ma)) (he : ∀ whole, isTrue a X.env whole = (do let v ← whole; standAt a.pos; holding [v] (truthy v))) : PTP P X a (tT G W ma) := by
  intro pins s σ H Q hP I h
  have h2 : tE G W ma σ H (fun x H' => ∃ k, TruV X.K x H' k ∧ Q k H') := by rw [hK]; exact h.tru
  exact isTrue_plain (thn (ha pins s σ H _ hP I h2) fun v s1 ⟨x, H1, I1, r1, q1⟩ => tru_ok pins s1 σ H1 x v Q I1 r1 q1) (he _)
/-- a call of a def that wants a token -/
theorem pep_callT {f : Nat} {x : Str} {p pos : Pos} {m : Ex} (c : CtxE g G C W X S) (hg : S.gl x = true) (hf : g.fns.length ≤ f) (hk : g.fns[f - g.fns.length]? = some x) (hs : notStar a = true) (ha : PE X a (tE G W (ev C m))) : PEP Pt X (.Call (.Name x p) [a] [] pos) (tE G W (ev C (.call f (.cons m .nil)))) := by
  intro pins s σ H Q h0 I h
  obtain ⟨fa, h1, h2⟩ := c.fns _ x hk
  obtain ⟨g1, g2, g3⟩ := gl_in c hg
  obtain ⟨lvl, fd, ps, np, f1, f2, f3, f4, f5, f6⟩ := (c.ht _ fa h1).ex
  rw [Nat.add_sub_cancel' hf] at f1 f5 f6
  replace h : tE G W (fun ρ => (consL (ev C m ρ) (.ok [])).bnd (C.call f)) σ H Q := h
  have ht := tAs.call (fun _ ds _ => f5 ds) f6 h
  have hst : starEach [a] X.env = (false, eval a X.env) :: starEach [] X.env := star_ok hs
  refine wpAny_Call_Name_kw (ld_glob I g1 h2 ?_ g2)
  refine PySem.W.callWith_K (h₀ := X.base) I.ok.mod.kin f3 (thn (Q := fun us s2 => 1 ≤ s2.toks ∧ AP X pins σ (fun vs H1 => spD G np (C.call f) (vs ++ []) H1 Q (WE W σ)) us s2) ?_ fun us s2 ⟨k0, vs, H2, I2, r, q⟩ => ⟨I2.kIn, ?_⟩) hst rfl
  rotate_left
  · exact run_fnT (E := WE W) f1 f2 f4 .nil (passAt c.tk σ) k0 I2 r q
  · have ht2 : tE G W (ev C m) σ H (fun v H1 => spD G np (C.call f) ([v] ++ []) H1 Q (WE W σ)) := by
      obtain ⟨F, ρ, E, p⟩ := ht
      refine ⟨F, ρ, E, ?_⟩
      replace p : PostL G F W σ H (fun vs H1 => spD G np (C.call f) (vs ++ []) H1 Q (WE W σ)) (consL (ev C m ρ) (.ok [])) := p
      cases hmr : ev C m ρ with
      | ok d => rw [hmr] at p; exact fun v H' e r => p [v] H' e (.cons r .nil)
      | okm xs => rw [hmr] at p; exact p.elim
      | exc c => rw [hmr] at p; exact p
      | bad => rw [hmr] at p; exact p.elim
    rw [hst]
    show wpAny _ _ (spliced ((false, eval a X.env) :: backTo pos (starEach [] X.env))) _ _ s
    exact Calls.spliced_cons (wpAny_mono (PySem.wpAny_toks_of h0 (ha.run pins s σ H _ I ht2)) (fun v s1 z => by
      obtain ⟨k0, y, H1, I1, r1, q1⟩ := z
      exact Calls.spliced_nil ⟨k0, [y], H1, I1, .cons r1 .nil, q1⟩) fun _ _ z => z.2)
/-- a def called, its first argument so -/
theorem pep_call2 {k : Nat} {x : Str} {p pos : Pos} {m1 m2 : Ex} (c : CtxE g G C W X S) (hg : S.gl x = true) (hk : g.fns[k]? = some x) (hsa : notStar a = true) (hsb : notStar b = true) (ha : PEP P X a (tE G W (ev C m1))) (hb : PE X b (tE G W (ev C m2))) :
    PEP P X (.Call (.Name x p) [a, b] [] pos) (tE G W (ev C (.call k (.cons m1 (.cons m2 .nil))))) := by
  intro pins s σ H Q h0 I h
  obtain ⟨fa, f1, f2⟩ := c.fns k x hk
  obtain ⟨lvl, fd, ps, np, Fk, hr, hkp, hbn, hl, hnm⟩ := (c.call k fa f1).ex
  obtain ⟨g1, g2, g3⟩ := gl_in c hg
  replace h : tE G W (fun ρ => (consL (ev C m1 ρ) (consL (ev C m2 ρ) (.ok []))).bnd (C.call k)) σ H Q := h
  have ht := tAs.call (fun _ ds _ => hl ds) hnm h
  have hst : starEach [a, b] X.env = (false, eval a X.env) :: starEach [b] X.env := star_ok hsa
  have hst2 : starEach [b] X.env = (false, eval b X.env) :: starEach [] X.env := star_ok hsb
  refine wpAny_Call_Name_kw (ld_glob I g1 f2 ?_ g2)
  refine PySem.W.callWith_K (h₀ := X.base) I.ok.mod.kin hkp (thn (Q := AP X pins σ fun vs H1 => spD G np (C.call k) (vs ++ []) H1 Q (WE W σ)) ?_ fun us s2 ⟨vs, H2, I2, r, q⟩ => ⟨I2.kIn, ?_⟩) hst (by rw [hst2]; rfl)
  rotate_left
  · exact run_fnSD (E := WE W) Fk hr hbn .nil (passAt c.tk σ) I2 r q
  · have ht2 : tE G W (ev C m1) σ H (fun v H1 => tE G W (ev C m2) σ H1 fun u H2 => spD G np (C.call k) ([v, u] ++ []) H2 Q (WE W σ)) := by
      obtain ⟨F, ρ, E, p⟩ := ht
      refine ⟨F, ρ, E, ?_⟩
      replace p : PostL G F W σ H (fun vs H1 => spD G np (C.call k) (vs ++ []) H1 Q (WE W σ)) (consL (ev C m1 ρ) (consL (ev C m2 ρ) (.ok []))) := p
      cases h1 : ev C m1 ρ with
      | ok d =>
        rw [h1] at p
        intro v H' e r
        refine ⟨F, ρ, E.up e, ?_⟩
        cases h2 : ev C m2 ρ with
        | ok d2 => rw [h2] at p; exact fun u H2 e2 r2 => p [v, u] H2 (e.trans e2) (.cons (Rep.up (d := d) r (sol_up e2)) (.cons r2 .nil))
        | okm xs => rw [h2] at p; exact p.elim
        | exc c => rw [h2] at p; exact fun H2 e2 => p H2 (e.trans e2)
        | bad => rw [h2] at p; exact p.elim
      | okm xs => rw [h1] at p; exact p.elim
      | exc c => rw [h1] at p; exact p
      | bad => rw [h1] at p; exact p.elim
    rw [hst, hst2]
    show wpAny _ _ (spliced ((false, eval a X.env) :: (false, eval b X.env) :: backTo pos (starEach [] X.env))) _ _ s
    exact Calls.spliced_cons (thn (ha pins s σ H _ h0 I ht2) fun v s1 ⟨y, H1, I1, r1, q1⟩ => Calls.spliced_cons (thn (hb.run pins s1 σ H1 _ I1 q1) fun u s2 ⟨y2, H2, I2, r2, q2⟩ => Calls.spliced_nil ⟨[y, y2], H2, I2, .cons r1 (.cons r2 .nil), q2⟩))
theorem pst_imp {st : Stmt} {t t' : TS} (h : PST X st t) (k : ∀ D σ H, t' D σ H → t D σ H) : PST X st t' := fun pins s σ H D h0 I q => h pins s σ H D h0 I (k D σ H q)
theorem pst_ifD {c : Expr} {sa sb : List Stmt} {m : En → R} {fa fb : En → Fl} {Fc : Addr → Prop} {B : Hp} (hc : PTP Pt X c (tT G W m)) (ha : PSs X sa (tS G W Fc B fa)) (hb : PSs X sb (tS G W Fc B fb)) : PST X (.If c sa sb pos) (tS G W Fc B fun ρ => (m ρ).thnW ρ fun d => ifF d (fa ρ) (fb ρ)) := by
  intro pins s σ H D h0 I h
  have h2 : tT G W m σ H (fun d H1 => if d = true then tS G W Fc B fa D σ H1 else tS G W Fc B fb D σ H1) := by
    obtain ⟨ρ, ⟨F, S⟩, p⟩ := h
    refine ⟨F, ρ, S.env, PFl.thnT S p _ fun t H' e S' p' => ?_⟩
    cases t with
    | true => rw [if_pos rfl] at p' ⊢; exact ⟨ρ, ⟨F, S'⟩, p'⟩
    | false => rw [if_neg Bool.false_ne_true] at p' ⊢; exact ⟨ρ, ⟨F, S'⟩, p'⟩
  refine wpAny_If (thn (hc pins s σ H _ h0 I h2) fun d s1 ⟨H1, I1, q1⟩ => ?_)
  cases d with
  | true => exact ha.run pins s1 σ H1 D I1 q1
  | false => exact hb.run pins s1 σ H1 D I1 q1
theorem iStr_lit {fs : List Nat} {σ : VS} {H : Hp} {K : L2.It → Hp → Prop} (h : tI G W true (fun _ => R.toW true (.ok (.str fs)) walkD) σ H K) : iStr (tE G W (ev C (.lit (.str fs)))) σ H K := by
  obtain ⟨F, ρ, E, p⟩ := h
  refine ⟨F, ρ, E, ?_⟩
  replace p : PostK G F W true σ H K (.ok (fs.map fun c => .str [c])) := p
  show Post G F W σ H _ (.ok (.str fs))
  intro v H' e r
  cases r with
  | str _ sk => exact ⟨sV fs, rfl, p _ H' e (wlk_str sk) (by rw [List.length_map]; exact sk.len)⟩
theorem pst_setLcT {i : Nat} {y : Str} {py : Pos} {elt iter : Expr} {ifs : List Expr} {scope : Scope} {own : List (Str × Nat)} {i0 : Nat} {x0 : Str} {p0 pos spos : Pos} {te0 : TE} {gg : TG} {tt : TT} {te : TE} (hc : X.calm = true) (hN : X.N.Nodup) (hy : X.N[i]? = some y) (hyl : X.env.scope.names.lookup y = some .local)
    (hsw : swapsWith (.ListComp elt [⟨.Name x0 p0, iter, ifs, 0⟩] scope pos) (some (.Name y py)) spos.line X.env = pure true) (hi : PE X iter te0) (ok : BlkOk X.N X.env.scope scope own)
    (hi0 : X.N[i0]? = some x0) (hl0 : ∀ (s : Shared) (H : Hp) (C : Addr) (cl : List (Str × Addr)) (fp : List Addr), (X.blk s H scope (compEnvC scope cl C X.env) fp).env.scope.names.lookup x0 = some .local) (hg : ∀ v σ H Q, gg v σ H Q → Q (σ.set i0 (some v)) H)
    (ht : ∀ (s : Shared) (H : Hp) (C : Addr) (cl : List (Str × Addr)) (fp : List Addr), HotT (X.blk s H scope (compEnvC scope cl C X.env) fp) i0 x0 ifs tt)
    (he : ∀ (s : Shared) (H : Hp) (C : Addr) (cl : List (Str × Addr)) (fp : List Addr), PE (X.blk s H scope (compEnvC scope cl C X.env) fp) elt te) (hs : ∀ x, foldedSetIterable iter X.env x = pure x) :
    PST X (.Assign [.Name y py] (.ListComp elt [⟨.Name x0 p0, iter, ifs, 0⟩] scope pos) spos) (tAsg (tLc (iStr te0) gg tt te (own.map (·.2))) (gName i)) := by
  intro pins s σ H D h0 I h
  rw [exec_Assign_Name_used _ _ _ _ hsw]
  refine wpAny_bind (wpAny_standAt (wpAny_bind ?_))
  show wpAny _ X.A (do let _ ← comprehension (.ListComp elt [⟨.Name x0 p0, iter, ifs, 0⟩] scope pos) scope X.env (firstIterPos [⟨.Name x0 p0, iter, ifs, 0⟩] pos) (newList []) false (eval iter X.env) (some (assign (.Name y py) X.env))) _ _ s
  have h : tLc (iStr te0) gg tt te (own.map (·.2)) σ H (fun x H1 => gName i x σ H1 D.nx) := h
  refine wpAny_bind (thn (lcT_core (Qf := fun _ s' => SP X pins D .next s') hc hN h0 I hi ok hi0 hl0 hg ht he hs h fun L C s' m H' I' q hn f => ?_) fun _ s' hq => wpAny_pure (wpAny_pure hq))
  show wpAny _ _ (assign (.Name y py) X.env (.ref L)) _ _ _
  refine wpAny_assign_Name (store_ok2 (v := V.ref L) I' hN hy (.inl hyl) rfl (fun s2 I2 ⟨a, sb, ha⟩ => ?_) (.inr hyl))
  obtain ⟨f0, f1, f2, f3, f4, f5⟩ := f
  have haC : C ≠ a := by
    rcases ha with z | z
    · rw [z]; exact f1
    · exact fun e => f4 y a z e.symm
  refine ⟨m, hn.sameBut sb haC, fun h3 sb3 => ?_⟩
  exact ⟨_, H', I2.turned (t' := s2.toks) (fun b o hb e => (sb3.2 b hb).trans e) f0 f1 f3 f4 f5, q⟩
end
end Dk

/-! DkF: statements: the check, and that it holds. -/
namespace Dk
open PySem PySem.Spec PyProof.Rows L2
/-- a comprehension whose list is stored ahead of the block's end -/
def swB (S : Sc) (x : Str) (px : Pos) (scope : Scope) (pl : Pos) : Bool := (S.sc.names.lookup x == some .local) && (px.line == pl.line) && !(scope.names.any fun (n, k) => n == x && (k == .local || k == .cell))
theorem sw_val {elt : Expr} {gs : List Comprehension} {scope : Scope} {pos py : Pos} {y : Str} {l : Nat} {env : Env} : swapsWith (.ListComp elt gs scope pos) (some (.Name y py)) l env = pure (env.blockKind == .function && env.kindOf y == some .local && py.line == pos.line && !(scope.names.any fun (n, k) => n == y && (k == .local || k == .cell))) := rfl
def noTupE : Expr → Bool | .Tuple _ _ _ => false | _ => true
theorem swapped_none {t e : Expr} {env : Env} (h : noTupE e = true) : swappedStores [t] e env = pure none := by
  cases e <;> first
    | (cases h; done)
    | (cases t <;> rfl)
theorem swapped_sub {a b e : Expr} {p : Pos} {env : Env} : swappedStores [.Subscript a b p] e env = pure none := by
  cases e <;> rfl
theorem sole_ok {t e : Expr} {l : Nat} {env : Env} (h : noLc e = true) : swapsWithSole [t] e l env = pure false := by
  cases e <;> first | rfl | cases h
/-- raise x('m') -/
def raiB (g : Gt) (S : Sc) (c : Nat) : Stmt → Bool
  | .Raise (some (.Call (.Name x _) [.Constant (.str _) _ _] [] _)) none _ => S.gl x && g.errs[c]? == some x
  | _ => false
def vTry : Stmt → Option (List Stmt × Str × Pos × Stmt × Pos × Pos) | .Try a [.ExceptHandler (some (.Name x np)) none [s] p2] [] [] p => some (a, x, np, s, p2, p) | _ => none
theorem vTry_eq {s a x np b p2 p} (h : vTry s = some (a, x, np, b, p2, p)) : s = .Try a [.ExceptHandler (some (.Name x np)) none [b] p2] [] [] p := by
  unfold vTry at h
  split at h
  · cases h; rfl
  · cases h
def vTryA : Stmt → Option (List Stmt × Str × Pos × Str × Stmt × Pos × Pos) | .Try a [.ExceptHandler (some (.Name x np)) (some n) [s] p2] [] [] p => some (a, x, np, n, s, p2, p) | _ => none
theorem vTryA_eq {s a x np n b p2 p} (h : vTryA s = some (a, x, np, n, b, p2, p)) : s = .Try a [.ExceptHandler (some (.Name x np)) (some n) [b] p2] [] [] p := by
  unfold vTryA at h
  split at h
  · cases h; rfl
  · cases h
/-- isinstance(n, x) -/
def vIsE : Expr → Option (Str × Str × Str × Pos × Pos × Pos × Pos) | .Call (.Name f p) [.Name n q, .Name x r] [] o => some (f, n, x, p, q, r, o) | _ => none
theorem vIsE_eq {e f n x p q r o} (h : vIsE e = some (f, n, x, p, q, r, o)) : e = .Call (.Name f p) [.Name n q, .Name x r] [] o := by
  unfold vIsE at h
  split at h
  · cases h; rfl
  · cases h
def isEB (g : Gt) (S : Sc) (n : Str) (k : Nat) (e : Expr) : Bool := match vIsE e with
  | some (f, m, x, _, _, _, _) => (f == ("isinstance" : Str)) && (S.gl f && ((m == n) && (S.gl x && (g.errs[k]? == some x))))
  | none => false
def isVB (S : Sc) (n : Str) (e : Expr) : Bool := match vIsE e with
  | some (f, m, x, _, _, _, _) => (f == ("isinstance" : Str)) && (S.gl f && ((m == n) && (S.gl x && (x == ("ValueError" : Str)))))
  | none => false
/-- return isinstance(n, x) and isinstance(n, ValueError) -/
def isaB (g : Gt) (S : Sc) (n : Str) (k : Nat) (st : Stmt) : Bool := match vRet st with
  | some (v, _) => (match vBool v with | some (.And, [a, b], _) => isEB g S n k a && isVB S n b | _ => false)
  | none => false
/-- return f(n) -/
def wrdB (g : Gt) (S : Sc) (n : Str) (k : Nat) (st : Stmt) : Bool := match vRet st with
  | some (v, _) => (match vFn v with | some (x, _, [y], _) => S.gl x && (g.fns[k]? == some x && (match vName y with | some (m, _) => m == n | none => false)) | _ => false)
  | none => false
/-- x.append(d), a constant -/
def appB (S : Sc) (i : Nat) (d : D) (st : Stmt) : Bool := match vExp st with
  | some (z, _) => (match vMe z with | some (o, n, ap, [a], cp) => (match vName o with | some (x, _) => (n == ("append" : Str)) && ((ap.endLine == cp.line) && (S.slot i x && (notStar a && (match vConst a with | some (c, _, _) => litOk d c | none => false)))) | none => false) | _ => false)
  | none => false
/-- names of errors, and the body that tells which one is held -/
def isKB (S : Sc) (i : Nat) (e : Expr) : Bool := match vName e with | some (x, _) => S.slot i x | none => false
def isTB (e : Expr) : Bool := match vConst e with | some (c, _, _) => litOk (.bl true) c | none => false
def isSB (s : List Nat) (e : Expr) : Bool := match vConst e with | some (c, _, _) => litOk (.str s) c | none => false
def wTell : List Nat := [119, 114, 111, 110, 103]
def wNames : List (List Nat) := [[110, 111, 32, 114, 111, 119], [110, 111, 32, 99, 111, 100, 101], [100, 111, 117, 98, 116, 102, 117, 108], [99, 108, 111, 115, 101, 100], [110, 111, 32, 116, 101, 120, 116]]
def wkB1 (g : Gt) (S : Sc) (n : Str) (st : Stmt) : Bool := match vAsg st with
  | some (t, v, _) => (match vName t, vLst v with | some (x, _), some ([a, b], _) => S.loc 1 x && (isEB g S n 1 a && isEB g S n 2 b) | _, _ => false)
  | none => false
def wkB2 (g : Gt) (S : Sc) (n : Str) (st : Stmt) : Bool := match vAsg st with
  | some (t, v, _) => (match vName t, vBin v with | some (x, _), some (u, .Add, w, _) => (match vLst w with | some ([a, b], _) => S.loc 1 x && (isKB S 1 u && (isEB g S n 3 a && isEB g S n 4 b)) | _ => false) | _, _ => false)
  | none => false
def wkB3 (g : Gt) (S : Sc) (n : Str) (st : Stmt) : Bool := match vExp st with
  | some (v, _) => (match vMe v with | some (o, m, ap, [a], cp) => (match vName o with | some (x, _) => (m == ("append" : Str)) && ((ap.endLine == cp.line) && (S.slot 1 x && isEB g S n 5 a)) | none => false) | _ => false)
  | none => false
/-- o.m(True) of the list -/
def wkM (S : Sc) (m : Str) (e : Expr) : Bool := match vMe e with
  | some (o, m', ap, [t], cp) => (m' == m) && ((ap.endLine == cp.line) && (isKB S 1 o && isTB t))
  | _ => false
def wkB4 (g : Gt) (S : Sc) (n : Str) (st : Stmt) : Bool := match vIfS st with
  | some (c, [r], [], _) => (match vBool c with
    | some (.Or, [u, v], _) => (match vCmp u, vUn v with
      | some (m, [.NotEq], [one], _), some (.Not, q, _) => wkM S "count" m && ((match vConst one with | some (c, _, _) => litOk (.int 1) c | none => false) && (isVB S n q && (match vRet r with | some (w, _) => isSB wTell w | none => false)))
      | _, _ => false)
    | _ => false)
  | _ => false
def wkB5 (S : Sc) (st : Stmt) : Bool := match vRet st with
  | some (v, _) => (match vSub v with
    | some (t, i, _) => (match vTup t with
      | some ([a, b, c, d, e], _, _) => isSB (wNames.getD 0 []) a && (isSB (wNames.getD 1 []) b && (isSB (wNames.getD 2 []) c && (isSB (wNames.getD 3 []) d && (isSB (wNames.getD 4 []) e && wkM S "index" i))))
      | _ => false)
    | none => false)
  | none => false
def wkB (g : Gt) (S : Sc) (sts : List Stmt) : Bool := match S.N, sts with
  | [n, _], [a, b, c, d, e] => S.slot 0 n && (wkB1 g S n a && (wkB2 g S n b && (wkB3 g S n c && (wkB4 g S n d && wkB5 S e))))
  | _, _ => false
def retB (d : D) (st : Stmt) : Bool := match vRet st with | some (v, _) => (match vConst v with | some (c, _, _) => litOk d c | none => false) | none => false
/-- a new list -/
def chkF (g : Gt) (S : Sc) : Ex → Expr → Bool
  | .lst es, e => (match vLst e with | some (xs, _) => decide (xs.length ≤ 1000) && chkEs g S es xs | none => false)
  | .bin .add a b, e => (match vBin e with | some (x, .Add, y, _) => chkE g S a x && chkE g S b y | _ => false)
  | .bin .mul a b, e => (match vBin e with | some (x, .Mult, y, _) => chkE g S a x && chkE g S b y | _ => false)
  | _, _ => false
def isLst : Ex → Bool
  | .lst _ => true
  | _ => false
def parE (g : Gt) (S : Sc) (m : Bool) (e : Ex) (a : Expr) : Bool := if m then isLst e && chkF g S e a else chkE g S e a
def apart (x y : Str) : Bool := !(x == y) && !(y == x)
def parB (g : Gt) (S : Sc) : List (Nat × Bool) → Exs → List Expr → List Expr → Bool
  | [(i, m), (j, n)], .cons e (.cons f .nil), [tx, ty], [a, b] => (match vName tx, vName ty with
    | some (x, px), some (y, py) => S.locl i x && (S.locl j y && (decide (i ≠ j) && ((py.line == px.line) && (apart x y && (!nstar a && (!nstar b && (![a, b].all (foldedForSure 8) && (![a, b].all (constantsAlone 8) && ((S.sc.kind == .function) && (parE g S m e a && parE g S n f b))))))))))
    | _, _ => false)
  | [(i, m), (j, n), (l, o)], .cons e (.cons f (.cons h .nil)), [tx, ty, tz], [a, b, c] => (match vName tx, vName ty, vName tz with
    | some (x, px), some (y, py), some (z, pz) => S.locl i x && (S.locl j y && (S.locl l z && ((decide (i ≠ j) && (decide (i ≠ l) && decide (j ≠ l))) && (((py.line == px.line) && (pz.line == px.line)) && ((apart x y && (apart x z && apart y z)) && (!nstar a && (!nstar b && (!nstar c && (![a, b, c].all (foldedForSure 8) && (![a, b, c].all (constantsAlone 8) && ((S.sc.kind == .function) && (parE g S m e a && (parE g S n f b && parE g S o h c)))))))))))))
    | _, _, _ => false)
  | _, _, _, _ => false
def foldB : Expr → Bool
  | .Tuple vs _ _ => vs.all (foldedForSure 8)
  | _ => false
theorem swapped_none2 {t e : Expr} {env : Env} (h : (noTupE e || foldB e) = true) : swappedStores [t] e env = pure none := by
  rw [Bool.or_eq_true] at h
  rcases h with h | h
  · exact swapped_none h
  · unfold foldB at h
    split at h
    · exact swapped_fold h
    · cases h
/-- a target that is no plain local: the stores are not exchanged -/
def celB (S : Sc) : List Expr → Expr → Bool
  | ts, .Tuple _ _ _ => ts.any fun t => match vName t with | some (x, _) => !(S.sc.names.lookup x == some .local) | none => false
  | _, _ => false
theorem swapped_cell {ts : List Expr} {e : Expr} {k : Nat} {p : Pos} {env : Env} {S : Sc} (hs : env.scope = S.sc) (h : celB S ts e = true) : swappedStores [.Tuple ts k p] e env = pure none := by
  unfold celB at h
  split at h
  · rename_i vs k2 p2
    rw [List.any_eq_true] at h
    obtain ⟨t, ht, h⟩ := h
    split at h
    · rename_i x px hv
      obtain rfl := vName_eq hv
      have hx : (env.kindOf x == some .local) = false := by
        have e : env.kindOf x = S.sc.names.lookup x := by rw [← hs]; rfl
        rw [e]
        simpa using h
      unfold swappedStores
      dsimp only
      split
      · rfl
      · split
        · rfl
        · have hlen : ∀ (line : Nat) (l : List Expr), (.Name x px ∈ l) → (l.filterMap fun
            | .Name id pos => if env.kindOf id == some .local && pos.line == line then some id else none
            | _ => none).length < l.length := by
            intro line l hm
            induction l with
            | nil => cases hm
            | cons y l ih =>
              rcases List.mem_cons.mp hm with rfl | hm
              · rw [List.filterMap_cons]
                simp only [hx, Bool.false_and, Bool.false_eq_true, if_false]
                exact Nat.lt_succ_of_le (List.length_filterMap_le _ _)
              · rw [List.filterMap_cons]
                have := ih hm
                split
                · exact Nat.lt_succ_of_lt this
                · exact Nat.succ_lt_succ this
          have hl := hlen ((ts.head?.map (·.pos.line)).getD 0) ts ht
          refine if_pos ?_
          rw [Bool.or_eq_true]
          left
          rw [bne_iff_ne]
          exact Nat.ne_of_lt hl
    · cases h
  · cases h
/-! ### statements behind which, and ahead of which a token is out -/
def tokS (st : Stmt) : Bool := match vAsg st with
  | some (t, v, _) => (match vName t with | some _ => noLc v && tokE v | none => false)
  | none => false
def exOr : Ex → Option (Ex × Ex) | .or_ a b => some (a, b) | _ => none
def exNot : Ex → Option Ex | .not_ a => some a | _ => none
def exCal : Ex → Option (Nat × Exs) | .call f es => some (f, es) | _ => none
def ex1 : Exs → Option Ex | .cons a .nil => some a | _ => none
def ex2 : Exs → Option (Ex × Ex) | .cons a (.cons b .nil) => some (a, b) | _ => none
def exCmp : Ex → Option (Ex × Ex) | .cmp .eq a b => some (a, b) | _ => none
def exMod : Ex → Option (Ex × Ex) | .bin .mod a b => some (a, b) | _ => none
def exRep : Ex → Option (Nat × Nat) | .me .replace (.slot t) (.cons (.lit (.str [63])) (.cons (.slot z) .nil)) => some (t, z) | _ => none
def exCom : Ex → Option (Nat × List Nat × Ex) | .comp (.slot z) (.one y) (.val (.lit (.str fs))) c [x] => if z = y ∧ y = x then some (z, fs, c) else none | _ => none
theorem exOr_eq {c a b} (h : exOr c = some (a, b)) : c = .or_ a b := by unfold exOr at h; split at h <;> cases h; rfl
theorem exNot_eq {c a} (h : exNot c = some a) : c = .not_ a := by unfold exNot at h; split at h <;> cases h; rfl
theorem exCal_eq {c f es} (h : exCal c = some (f, es)) : c = .call f es := by unfold exCal at h; split at h <;> cases h; rfl
theorem ex1_eq {es a} (h : ex1 es = some a) : es = .cons a .nil := by unfold ex1 at h; split at h <;> cases h; rfl
theorem ex2_eq {es a b} (h : ex2 es = some (a, b)) : es = .cons a (.cons b .nil) := by unfold ex2 at h; split at h <;> cases h; rfl
theorem exCmp_eq {c a b} (h : exCmp c = some (a, b)) : c = .cmp .eq a b := by unfold exCmp at h; split at h <;> cases h; rfl
theorem exMod_eq {c a b} (h : exMod c = some (a, b)) : c = .bin .mod a b := by unfold exMod at h; split at h <;> cases h; rfl
theorem exRep_eq {c t z} (h : exRep c = some (t, z)) : c = .me .replace (.slot t) (.cons (.lit (.str [63])) (.cons (.slot z) .nil)) := by unfold exRep at h; split at h <;> cases h; rfl
theorem exCom_eq {c z fs d} (h : exCom c = some (z, fs, d)) : c = .comp (.slot z) (.one z) (.val (.lit (.str fs))) d [z] := by
  unfold exCom at h
  split at h
  · split at h
    · rename_i q
      obtain ⟨rfl, rfl⟩ := q
      cases h; rfl
    · cases h
  · cases h
/-- not same(f(a), b) or c -/
def hotC (g : Gt) (S : Sc) (c : Ex) (e : Expr) : Bool := match exOr c, vBool e with
  | some (c1, c2), some (.Or, [u, v], _) => (match exNot c1, vUn u with
    | some c3, some (.Not, q, _) => (match exCal c3, vFn q with
      | some (ks, es), some (n, _, [x, y], _) => (match ex2 es, vFn x with
        | some (d, b), some (n2, _, [x2], _) => (match exCal d with
          | some (f, fs) => (match ex1 fs with
            | some a => S.gl n && (g.fns[ks]? == some n && (notStar x && (notStar y && (S.gl n2 && (decide (g.fns.length ≤ f) && (g.fns[f - g.fns.length]? == some n2 && (notStar x2 && (chkE g S a x2 && (chkE g S b y && chkE g S c2 v)))))))))
            | none => false)
          | none => false)
        | _, _ => false)
      | _, _ => false)
    | _, _ => false)
  | _, _ => false
/-- f(t.replace("?", x)) % m == r -/
def hotD (g : Gt) (S : Sc) (z : Nat) (x : Str) (c : Ex) (e : Expr) : Bool := match exCmp c, vCmp e with
  | some (c1, r), some (l, [.Eq], [r'], _) => (match exMod c1, vBin l with
    | some (c2, m), some (q, .Mod, m', _) => (match exCal c2, vFn q with
      | some (f, es), some (n, _, [a], _) => (match ex1 es with
        | some c3 => (match exRep c3 with
          | some (t, z') => decide (z' = z) && (S.gl n && (g.fns[f]? == some n && (notStar a && (repT S t x a && (chkE g S m m' && (chkE g S r r' && noSet r'))))))
          | none => false)
        | none => false)
      | _, _ => false)
    | _, _ => false)
  | _, _ => false
def hotA (g : Gt) (S : Sc) (i : Nat) (e : Ex) (st : Stmt) : Bool := match exCom e, vAsg st with
  | some (z, fs, c), some (t, v, _) => (match vName t, vLc v with
    | some (y, py), some (elt, [⟨tg, iter, [d], 0⟩], scope, pl) => (match vName tg with
      | some (x, _) => swB S y py scope pl && ((S.sc.kind == .function) && (S.loc i y && (blkOkB S scope [z] && ((S.blk scope).locl z x && ((S.blk scope).slot z x && (chkE g S (.lit (.str fs)) iter && (noSet iter && (chkE g (S.blk scope) (.slot z) elt && hotD g (S.blk scope) z x c d))))))))
      | none => false)
    | _, _ => false)
  | _, _ => false
def hotS (g : Gt) (S : Sc) (s : Sm) (st : Stmt) : Bool := match s with
  | .set i e => hotA g S i e st
  | .ite c (.cons (.ret (.lit d)) .nil) .nil => (match vIfS st with
    | some (e, [r], [], _) => retB d r && hotC g S c e
    | _ => false)
  | _ => false
mutual
def chkS (g : Gt) (S : Sc) : Sm → Stmt → Bool
  | .set i e, st => (match vAsg st with | some (t, v, p) => (match vName t with | some (x, px) => S.loc i x && (match vLc v with | none => noLc v && chkE g S e v | some (_, _, scope, pl) => if swB S x px scope pl then (S.sc.kind == .function) && chkE g S e v else chkE g S e v) | none => false) | none => false)
  | .setM i e, st => (match vAsg st with | some (t, v, _) => (match vName t with | some (x, _) => S.loc i x && noLc v && chkF g S e v | none => false) | none => false)
  | .unp is e, st => (match vAsg st with | some (t, v, _) => (match vTup t with | some (es, _, _) => noLc v && (noTupE v || foldB v || celB S es v) && tgE.namesB S is es && chkE g S e v | none => false) | none => false)
  | .par is es, st => (match vAsg st with | some (t, v, _) => (match vTup t, vTup v with | some (ts, _, _), some (vs, _, _) => parB g S is es ts vs | _, _ => false) | none => false)
  | .app i e, st => (match vExp st with | some (z, _) => (match vMe z with | some (o, n, ap, [a], cp) => (match vName o with | some (x, _) => (n == ("append" : Str)) && (ap.endLine == cp.line) && S.slot i x && notStar a && chkE g S e a | none => false) | _ => false) | none => false)
  | .ext i e, st => (match vExp st with | some (z, _) => (match vMe z with | some (o, n, ap, [a], cp) => (match vName o with | some (x, _) => (n == ("extend" : Str)) && (ap.endLine == cp.line) && S.slot i x && notStar a && chkE g S e a | none => false) | _ => false) | none => false)
  | .stx i j e, st => (match vAsg st with | some (t, v, _) => (match vSub t with | some (o, y, _) => (match vName o with | some (x, _) => S.slot i x && plainE y && noLc v && chkE g S j y && chkE g S e v | none => false) | none => false) | none => false)
  | .frz _, _ => false
  | .ret e, st => (match vRet st with | some (v, _) => chkE g S e v | none => false)
  | .retM i, st => (match vRet st with | some (v, _) => (match vName v with | some (x, _) => S.slot i x | none => false) | none => false)
  | .exp e, st => (match vExp st with | some (v, _) => noLc v && chkE g S e v | none => false)
  | .rai c, st => raiB g S c st
  | .wrd, _ => false
  | .pass, st => (vPas st).isSome
  | .ite c a b, st => (match vIfS st with | some (e, x, y, _) => chkE g S c e && chkSs g S a false x && chkSs g S b false y | none => false)
  | .for_ tg it b, st => (match vFor st with | some (t, i, x, _) => noSet i && chkI g S it t i && tgE S tg t && chkSs g S b false x | none => false)
  | .while_ _ c b, st => (match vWhl st with | some (e, x, _) => chkE g S c e && chkSs g S b false x | none => false)
  | .try_ b hs, st => (match hs with | [(l, none, .retC d)] => (match vTry st with | some (a, x, _, r, _, _) => S.gl x && g.errs[l]? == some x && retB d r && chkSs g S b false a | none => false) | [(l, none, .appC i d)] => (match vTry st with | some (a, x, _, r, _, _) => S.gl x && (g.errs[l]? == some x && (appB S i d r && chkSs g S b false a)) | none => false) | [(l, some i, .isA j k)] => (match vTryA st with | some (a, x, _, n, r, _, _) => S.locl i n && (decide (j = i) && (S.slot i n && (S.gl x && (g.errs[l]? == some x && (isaB g S n k r && chkSs g S b false a))))) | none => false) | [(l, some i, .word k)] => (match vTryA st with | some (a, x, _, n, r, _, _) => S.locl i n && (S.slot i n && (S.gl x && (g.errs[l]? == some x && (wrdB g S n k r && chkSs g S b false a)))) | none => false) | _ => false)
def chkSs (g : Gt) (S : Sc) : Sms → Bool → List Stmt → Bool
  | .nil, _, [] => true
  | .cons (.frz _) ss, t, sts => chkSs g S ss t sts
  | .cons s ss, t, st :: sts => (chkS g S s st || (t && hotS g S s st)) && chkSs g S ss (t || tokS st) sts
  | _, _, _ => false
end
/-- a def's whole body -/
def chkTop (g : Gt) (S : Sc) (ms : Sms) (sts : List Stmt) : Bool := if ms.isW = true then wkB g S sts else match lakOf ms with
  | some (f, k) => lakB g S f k sts
  | none => chkSs g S ms false sts
theorem assign_sub {o i : Expr} {p : Pos} {env : Env} {v : Value} (h : plainE i = true) : assign (.Subscript o i p) env v = (do
      let ov ← holding [v] (eval o env)
      let iv ← holding [v, ov] (eval i env)
      standAt p
      holding [v, ov, iv] (setItem ov iv v)
      release [v, ov, iv] []) := by
  cases i <;> first | rfl | skip
  rename_i lo hi st q
  cases st with
  | none => cases h
  | some s => rfl
structure CtxS (g : Gt) (G : Ge) (C : Cal) (W : WX) (X : L2.Cx) (S : Sc) : Prop where
  e : CtxE g G C W X S
  own : PassesOwn (model X.prog X.w) X.A X.env X.xe
  stk : X.stack = X.env :: X.outer
  fr : X.env.frame = some X.env.locals
section
variable {g : Gt} {G : Ge} {C : Cal} {W : WX} {X : L2.Cx} {S : Sc}
theorem ps_setLcD {i : Nat} {y : Str} {py pos spos : Pos} {elt tg iter : Expr} {ifs : List Expr} {scope : Scope} {own : List Nat} {f : Nat → Str} {mi : En → Wk} {mc me : En → R} {tgm : Tg} {Fc : Addr → Prop} {B : Hp} (hc : X.calm = true) (hN : X.N.Nodup) (hy : X.N[i]? = some y) (hyl : X.env.scope.names.lookup y = some .local)
    (hsw : swapsWith (.ListComp elt [⟨tg, iter, ifs, 0⟩] scope pos) (some (.Name y py)) spos.line X.env = pure true) (hi : PI X tg iter (tI G W true mi)) (ok : BlkOk X.N X.env.scope scope (own.map fun i => (f i, i)))
    (hg : ∀ (s : Shared) (H : Hp) (A : Addr) (cl : List (Str × Addr)) (fp : List Addr), PG (X.blk s H scope (compEnvC scope cl A X.env) fp) tg (gD G tgm)) (ht : ∀ (s : Shared) (H : Hp) (A : Addr) (cl : List (Str × Addr)) (fp : List Addr), PTs (X.blk s H scope (compEnvC scope cl A X.env) fp) ifs (tT G W0 mc))
    (he : ∀ (s : Shared) (H : Hp) (A : Addr) (cl : List (Str × Addr)) (fp : List Addr), PE (X.blk s H scope (compEnvC scope cl A X.env) fp) elt (tE G W0 me)) (hs : ∀ x, foldedSetIterable iter X.env x = pure x) (hsub : ∀ i ∈ tgs tgm, i ∈ (own.map fun i => (f i, i)).map (·.2)) :
    PS X (.Assign [.Name y py] (.ListComp elt [⟨tg, iter, ifs, 0⟩] scope pos) spos) (tS G W Fc B fun ρ => (compM mi mc me tgm own ρ).thn ρ fun d => .nx (putS ρ i d)) := PS.imp (ps_setLc hc hN hy hyl hsw hi ok hg ht he hs) fun D σ H h => by
  refine set_fin (te := tLc (tI G W true mi) (gD G tgm) (tT G W0 mc) (tE G W0 me) ((own.map fun i => (f i, i)).map (·.2))) (fun σ H Q h => ?_) h
  obtain ⟨F, ρ, E, p⟩ := h
  have e : (own.map fun i => (f i, i)).map (·.2) = own := by rw [List.map_map]; exact List.map_id _
  rw [e] at hsub ⊢
  exact tLcD hsub E p
/-- the store of a comprehension's list -/
theorem set_lc {m : Ex} {e : Expr} {i : Nat} {x : Str} {px pos : Pos} {Fc : Addr → Prop} {B : Hp} (c : CtxS g G C W X S) (h : chkE g S m e = true) (hl : S.loc i x = true) (hv : ∃ a gs sc p, vLc e = some (a, gs, sc, p) ∧ swB S x px sc p = true) (hk : S.sc.kind = .function) : PS X (.Assign [.Name x px] e pos) (tS G W Fc B fun ρ => (ev C m ρ).thn ρ fun d => .nx (putS ρ i d)) := by
  obtain ⟨a, gs, sc, p, hv, hsw⟩ := hv
  obtain rfl := vLc_eq hv
  obtain ⟨k1, k2, k3⟩ := loc_in c.e.hN c.e.hsc c.e.hfn hl
  unfold swB at hsw
  obtain ⟨j1, hs3⟩ := and2 hsw
  obtain ⟨hs1, hs2⟩ := and2 j1
  have hs1 := eq_of_beq hs1
  have sw : swapsWith (.ListComp a gs sc p) (some (.Name x px)) pos.line X.env = pure true := sw_true (by rw [c.e.hsc]; exact hk) (by rw [c.e.hsc]; exact hs1) hs2 (by simpa using hs3)
  cases m <;> first
    | (exfalso; unfold chkE at h; simp [vName, vConst, vBin, vUn, vCmp, vBool, vIf, vTup, vLst, vSub, vFn, vMe] at h; done)
    | skip
  rename_i elt tg it cond own
  unfold chkE at h
  split at h
  · rename_i x2 t i2 ifs scope p2 hv2
    cases hv2
    obtain ⟨j2, h7⟩ := and2 h
    obtain ⟨j3, h6⟩ := and2 j2
    obtain ⟨j4, h5⟩ := and2 j3
    obtain ⟨j5, h4⟩ := and2 j4
    obtain ⟨j6, h3⟩ := and2 j5
    obtain ⟨h1, h2⟩ := and2 j6
    have hi := sndI it t i2 W X S c.e h4 true
    refine ps_setLcD c.e.calm c.e.nd k1 (by rw [c.e.hsc]; exact hs1) sw hi (blk_in c.e.hN c.e.hsc h1) (fun s H A cl fp => tg_in c.e.blk h5) (fun s H A cl fp => ?_) (fun s H A cl fp => (sndE elt _ W0 _ (S.blk sc) c.e.blk h6).1) (folded_ok h3) (tgs_in h2)
    cases ifs with
    | nil => exact pts_nilD h7
    | cons d ds =>
      cases ds with
      | nil => exact pts_one (sndE cond d W0 _ (S.blk sc) c.e.blk h7).2.1
      | cons d2 ds => cases h7
  · cases h
theorem sndF {m : Ex} {e : Expr} (c : CtxE g G C W X S) (h : chkF g S m e = true) : PE X e (tF G W (ev C m)) := by
  unfold chkF at h
  split at h
  · rename_i es
    split at h
    · rename_i xs p hv
      obtain rfl := vLst_eq hv
      obtain ⟨h1, h2⟩ := and2 h
      exact pe_lstF (sndEs es xs W X S c h2).s fun ρ ds q => by have := evs_len q (chkEs_len h2); have h1 := of_decide_eq_true h1; omega
    · cases h
  · rename_i a b
    split at h
    · rename_i x y p hv
      obtain rfl := vBin_eq hv
      obtain ⟨h1, h2⟩ := and2 h
      exact pe_addF (sndE a x W X S c h1).1 (sndE b y W X S c h2).1
    · cases h
  · rename_i a b
    split at h
    · rename_i x y p hv
      obtain rfl := vBin_eq hv
      obtain ⟨h1, h2⟩ := and2 h
      exact pe_mulF (sndE a x W X S c h1).1 (sndE b y W X S c h2).1
    · cases h
  · cases h
end
section
variable {g : Gt} {G : Ge} {C : Cal} {W : WX} {X : L2.Cx} {S : Sc} {Fc : Addr → Prop} {B : Hp}
theorem ps_raiD {k : Nat} {st : Stmt} (c : CtxE g G C W X S) (h : raiB g S k st = true) : PS X st (tS G W Fc B fun ρ => .exc k ρ) := by
  unfold raiB at h
  split at h
  · obtain ⟨h1, h2⟩ := and2 h
    obtain ⟨hg, hd, _⟩ := gl_in c h1
    obtain ⟨e1, e2, e3, e4⟩ := c.er k _ (eq_of_beq h2)
    refine PS.imp (ps_raise c.calm c.tk (pmk_own PySem.F.excBase_ValueError e2 e1 e3 e4 hg hd)) fun D σ H h => ?_
    obtain ⟨ρ, S, p⟩ := h
    exact p σ H S
  · cases h
theorem CtxE.tr (c : CtxE g G C W X S) {pn : List (Addr × Obj)} {xe : Value → Shared → Prop} {W2 : WX} (tk : Takes (X.tr pn xe) W2) : CtxE g G C W2 (X.tr pn xe) S :=
  ⟨c.hN, c.hsc, c.hfn, c.nd, c.hK, c.calm, tk, c.un, c.bi, c.cn, c.fns, fun k fa h => ⟨(c.call k fa h).ex⟩, c.er, c.sb, c.sx, c.ct, c.wk, c.wd, fun k fa h => ⟨(c.ht k fa h).ex⟩⟩
theorem CtxS.tr (c : CtxS g G C W X S) {pn : List (Addr × Obj)} {xe : Value → Shared → Prop} {W2 : WX} (tk : Takes (X.tr pn xe) W2) (ow : PassesOwn (model X.prog X.w) X.A X.env xe) : CtxS g G C W2 (X.tr pn xe) S :=
  ⟨c.e.tr tk, ow, c.stk, c.fr⟩
theorem ret_suite {X : L2.Cx} {d : D} {r : Stmt} (h : retB d r = true) : PSs X [r] (tS G W Fc B fun _ => .rt d) := by
  unfold retB at h
  split at h
  · rename_i v p hv
    obtain rfl := vRet_eq hv
    split at h
    · rename_i k y q hc
      obtain rfl := vConst_eq hc
      have z := pss_consD (X := X) (ps_retD (G := G) (W := W) (Fc := Fc) (B := B) (pos := p) (pe_litD (X := X) (G := G) (W := W) (p := q) (k := y) h)) (pss_nilD (X := X))
      exact z
    · cases h
  · cases h
theorem ps_tryD {l : Nat} {d : D} {b : Sms} {a : List Stmt} {x : Str} {np p2 p : Pos} {r : Stmt} (c : CtxS g G C W X S) (h1 : S.gl x = true) (h2 : g.errs[l]? = some x) (h3 : retB d r = true)
    (hb : ∀ (W2 : WX) (X2 : L2.Cx), CtxS g G C W2 X2 S → PSs X2 a (tS G W2 Fc B (exSs C b))) :
    PS X (.Try a [.ExceptHandler (some (.Name x np)) none [r] p2] [] [] p) (tS G W Fc B (exS C (.try_ b [(l, none, .retC d)]))) := by
  obtain ⟨hg, hd, _⟩ := gl_in c.e h1
  obtain ⟨e1, e2, e3, e4⟩ := c.e.er l x h2
  refine PS.imp (ps_try_only (c := .ref (G.ea l)) (tb := fun W2 => tS G W2 Fc B (exSs C b)) (ts := fun _ _ _ => tS G W Fc B fun _ => .rt d) c.stk c.fr ⟨hg, hd, .inl e1⟩ c.e.tk (fun W2 pn xe tk ow => hb W2 _ (c.tr tk ow)) fun a0 oe cls dd pn _ _ => ret_suite h3) fun D σ H h => ?_
  obtain ⟨ρ, S0, pf⟩ := h
  refine ⟨ρ, S0, ?_⟩
  replace pf : PFl G Fc W B D (match exSs C b ρ with
    | .exc c ρ' => hdF C c ρ' [(l, none, .retC d)]
    | r => r) := pf
  cases hr : exSs C b ρ with
  | nx ρ' => rw [hr] at pf; exact pf
  | rt d' => rw [hr] at pf; exact pf
  | bad => rw [hr] at pf; exact pf
  | exc k ρ' =>
    rw [hr] at pf
    intro σ2 H2 S2
    replace pf : PFl G Fc W B D (match C.sub k l with
      | some true => .rt d
      | some false => .exc k ρ'
      | none => .bad) := pf
    cases hs : C.sub k l with
    | none => rw [hs] at pf; exact pf.elim
    | some t =>
      rw [hs] at pf
      have em := c.e.sb k l t hs
      cases t with
      | true => exact ⟨true, em, fun _ a0 _ => ⟨ρ', S2, pf⟩, fun z => by cases z⟩
      | false => exact ⟨false, em, (fun z => by cases z), fun _ => pf σ2 H2 S2⟩
end
section
variable {g : Gt} {G : Ge} {C : Cal} {W : WX} {X : L2.Cx} {S : Sc} {Fc : Addr → Prop} {B : Hp}
theorem app_suite {X : L2.Cx} {a : Addr} {pn : List (Addr × Obj)} {i : Nat} {d : D} {r : Stmt} (c : CtxE g G C W X S) (h : appB S i d r = true) : PSs (X.suite a pn) [r] (tS G W Fc B fun ρ => appF ρ i d) := by
  unfold appB at h
  split at h
  · rename_i z p hv
    obtain rfl := vExp_eq hv
    split at h
    · rename_i o n ap e cp hz
      obtain rfl := vMe_eq hz
      split at h
      · rename_i x px hx
        obtain rfl := vName_eq hx
        obtain ⟨h1, r1⟩ := and2 h
        obtain ⟨h2, r2⟩ := and2 r1
        obtain ⟨h3, r3⟩ := and2 r2
        obtain ⟨h4, h5⟩ := and2 r3
        obtain rfl := eq_of_beq h1
        split at h5
        · rename_i k y q hc
          obtain rfl := vConst_eq hc
          obtain ⟨k1, k2, k3, k4⟩ := slot_in c h3
          have P : PSs (X.suite a pn) [.Expr (.Call (.Attribute (.Name x px) "append" ap) [.Constant k y q] [] cp) p] _ := pss_consD (X := X.suite a pn) (ps_appD (X := X.suite a pn) (G := G) (W := W) (Fc := Fc) (B := B) (pos := p) k1 k2 k3 k4 (pe_litD (X := X.suite a pn) (G := G) (W := W) (p := q) (k := y) h5) (star_ok h4) h2) (pss_nilD (X := X.suite a pn))
          have e : (fun ρ => (appG ρ i (.ok d)).nxt fun ρ => Fl.nx ρ) = fun ρ => appF ρ i d := by
            funext ρ
            unfold appG appF
            split
            · show (if _ then _ else _ : Fl).nxt _ = _
              split <;> rfl
            · rfl
          rw [e] at P
          exact P
        · cases h5
      · cases h
    · cases h
  · cases h
theorem ps_tryAppD {l i : Nat} {d : D} {b : Sms} {a : List Stmt} {x : Str} {np p2 p : Pos} {r : Stmt} (c : CtxS g G C W X S) (h1 : S.gl x = true) (h2 : g.errs[l]? = some x) (h3 : appB S i d r = true)
    (hb : ∀ (W2 : WX) (X2 : L2.Cx), CtxS g G C W2 X2 S → PSs X2 a (tS G W2 Fc B (exSs C b))) :
    PS X (.Try a [.ExceptHandler (some (.Name x np)) none [r] p2] [] [] p) (tS G W Fc B (exS C (.try_ b [(l, none, .appC i d)]))) := by
  obtain ⟨hg, hd, _⟩ := gl_in c.e h1
  obtain ⟨e1, e2, e3, e4⟩ := c.e.er l x h2
  refine PS.imp (ps_try_only (c := .ref (G.ea l)) (tb := fun W2 => tS G W2 Fc B (exSs C b)) (ts := fun _ _ _ => tS G W Fc B fun ρ => appF ρ i d) c.stk c.fr ⟨hg, hd, .inl e1⟩ c.e.tk (fun W2 pn xe tk ow => hb W2 _ (c.tr tk ow)) fun a0 oe cls dd pn _ _ => app_suite c.e h3) fun D σ H h => ?_
  obtain ⟨ρ, S0, pf⟩ := h
  refine ⟨ρ, S0, ?_⟩
  replace pf : PFl G Fc W B D (match exSs C b ρ with
    | .exc c ρ' => hdF C c ρ' [(l, none, .appC i d)]
    | r => r) := pf
  cases hr : exSs C b ρ with
  | nx ρ' => rw [hr] at pf; exact pf
  | rt d' => rw [hr] at pf; exact pf
  | bad => rw [hr] at pf; exact pf
  | exc k ρ' =>
    rw [hr] at pf
    intro σ2 H2 S2
    replace pf : PFl G Fc W B D (match C.sub k l with
      | some true => appF ρ' i d
      | some false => .exc k ρ'
      | none => .bad) := pf
    cases hs : C.sub k l with
    | none => rw [hs] at pf; exact pf.elim
    | some t =>
      rw [hs] at pf
      have em := c.e.sb k l t hs
      cases t with
      | true => exact ⟨true, em, fun _ a0 _ => ⟨ρ', S2, pf⟩, fun z => by cases z⟩
      | false => exact ⟨false, em, (fun z => by cases z), fun _ => pf σ2 H2 S2⟩
/-- isinstance asked of the error that a suite holds -/
def tIsE (K : PySem.W.Frag) (i : Nat) (a D0 : Addr) (cv : Value) : TE := fun σ H Q => ∃ b, σ[i]? = some (some (.ref a)) ∧ PySem.W.kitOne K (.ref D0) cv = some b ∧ Q (.bl b) H
theorem pe_isE {X : L2.Cx} {i : Nat} {a D0 : Addr} {oe : Obj} {pn : List (Addr × Obj)} {n x : Str} {v : V} {cv : Value} {p q r o : Pos} (hC : ExcC X.K D0) (hz : Zc (.ref D0) none oe) (hf : ∃ vs, oe.data = .fields vs) (hg : Gl X "isinstance") (hm : X.mg "isinstance" = none)
    (hn : X.N[i]? = some n) (hv : Vis X.env.scope n) (hd : (n == ("__debug__" : Str)) = false) (hcd : (n == ("__classdict__" : Str)) = false) (hx : PE (X.suite a ((a, oe) :: pn)) (.Name x r) (tC v)) (rv : ∀ u, RelV v u → u = cv) :
    PE (X.suite a ((a, oe) :: pn)) (.Call (.Name "isinstance" p) [.Name n q, .Name x r] [] o) (tIsE X.K i a D0 cv) := by
  have h1 : PE (X.suite a ((a, oe) :: pn)) (.Name n q) (tVar i) := pe_var (X := X.suite a ((a, oe) :: pn)) hn hv hd hcd
  refine PE.imp (pe_callB (X := X.suite a ((a, oe) :: pn)) (call_isE hC hz hf) hg hm boot_isinstance (pa_cons h1 (pa_cons hx pa_nil)) (by decide) (by decide) rfl rfl) fun σ H Q h => ?_
  obtain ⟨b, e1, e2, q⟩ := h
  exact ⟨.ref a, e1, v, cv, b, rfl, rv, e2, q⟩
/-- a call of the def that tells a word of the error that is handled -/
theorem pe_wrd {X : L2.Cx} {i : Nat} {a D0 fa : Addr} {fd : FuncData} {e : Str} {str : List Nat} {oe : Obj} {pn : List (Addr × Obj)} {n x : Str} {p q o : Pos} (F : FnW X.prog X.w X.K X.mg X.base D0 str fa fd e) (hz : Zc (.ref D0) none oe) (hf : ∃ vs, oe.data = .fields vs) (hg : Gl X x) (hm : X.mg x = some (.ref fa)) (hk : PySem.W.keepIn X.K (.ref fa) = true) (hb : Binds X.K fd [e] []) (hdp : X.A.depth < recursionLimit) (hun : X.A.units + 100 < cLine)
    (hn : X.N[i]? = some n) (hv : Vis X.env.scope n) (hd : (n == ("__debug__" : Str)) = false) (hcd : (n == ("__classdict__" : Str)) = false) (hdx : (x == ("__debug__" : Str)) = false) :
    PE (X.suite a ((a, oe) :: pn)) (.Call (.Name x p) [.Name n q] [] o) (fun σ H Q => σ[i]? = some (some (.ref a)) ∧ ∀ H', Same H H' → Q (.str (sV str)) H') := by
  have h1 : PE (X.suite a ((a, oe) :: pn)) (.Name n q) (tVar i) := pe_var (X := X.suite a ((a, oe) :: pn)) hn hv hd hcd
  refine ⟨fun pins s σ H Q I h => ?_⟩
  obtain ⟨e1, k⟩ := h
  refine wpAny_Call_Name_kw (ld_glob (X := X.suite a ((a, oe) :: pn)) I hg hm ?_ hdx)
  have ha : PA (X.suite a ((a, oe) :: pn)) [.Name n q] (tCons (tVar i) tNil) := pa_cons h1 pa_nil
  refine PySem.W.callWith_K (h₀ := X.base) I.ok.mod.kin hk (thn (ha.run o pins s σ H (fun vs H1 => vs = [.ref a] ∧ H1 = H) I ⟨.ref a, e1, rfl, rfl⟩) fun us s1 ⟨vs, H1, I1, r, q⟩ => ⟨I1.kIn, ?_⟩) rfl rfl
  obtain ⟨q1, q2⟩ := q
  subst q1 q2
  have hu : us = [.ref a] := by
    cases r with
    | cons r1 r2 =>
      cases r2
      cases r1
      rfl
  subst hu
  have b := hb s1 [.ref a] I1.kIn rfl
  have P1 := I1.pin (a, oe) (List.mem_append_left _ List.mem_cons_self)
  have hpin : L2H.PinOk (X.suite a ((a, oe) :: pn)).stack H1 s1 (a, oe) := ⟨P1.1, P1.2.1, fun hm => (List.mem_cons.mp (I1.stkSub a hm)).elim P1.2.2.1 P1.2.2.2.1, P1.2.2.2.2⟩
  refine wpAny_call (codeAny_mono (F.run (X.suite a ((a, oe) :: pn)).A (X.suite a ((a, oe) :: pn)).stack s1 H1 ⟨[.ref a], []⟩ a oe Q hdp hun hpin I1.env0 b hz hf k) fun r s' hq => ?_)
  cases r with
  | error e => exact hq.elim
  | ok fl =>
    cases fl with
    | ret u => exact I1.after hq
    | next => exact hq.elim
    | brk => exact hq.elim
    | cont => exact hq.elim
/-- what the suite asks -/
def tsWrd (X : L2.Cx) (G : Ge) (g : Gt) (C : Cal) (i k : Nat) (a : Addr) (cls : Value) (d : Option Addr) : TS := fun D σ H => ∃ m y s, cls = .ref (G.ea m) ∧ d = none ∧ g.errs[m]? = some y ∧ C.word k m = some s ∧ (i < σ.length → σ[i]? = some (some (.ref a))) ∧ ∀ H', Same H H' → D.rt (.str (sV s)) H'
theorem wrd_suite {X : L2.Cx} {k i : Nat} {n : Str} {r : Stmt} (c : CtxE g G C W X S) (hs : S.slot i n = true) (h : wrdB g S n k r = true) (a : Addr) (oe : Obj) (cls : Value) (d : Option Addr) (pn : List (Addr × Obj)) (hz : Zc cls d oe) (hf : ∃ vs, oe.data = .fields vs) :
    PSs (X.suite a ((a, oe) :: pn)) [r] (tsWrd X G g C i k a cls d) := by
  refine ⟨fun pins s σ H D I w => ?_⟩
  obtain ⟨m, y, str, e1, e2, hy, hw, e3, q⟩ := w
  subst e1 e2
  unfold wrdB at h
  split at h
  · rename_i v p hv
    obtain rfl := vRet_eq hv
    split at h
    · rename_i x px z pc hz2
      obtain rfl := vFn_eq hz2
      obtain ⟨j1, h3⟩ := and2 h
      obtain ⟨j2, h4⟩ := and2 h3
      clear h h3
      cases hn' : vName z with
      | none => rw [hn'] at h4; cases h4
      | some np' =>
        obtain ⟨n', pn'⟩ := np'
        rw [hn'] at h4
        obtain rfl := vName_eq hn'
        obtain rfl := eq_of_beq (show (n' == n) = true from h4)
        obtain ⟨hn, hv, hd, hcd⟩ := slot_in c hs
        have hi : i < X.N.length := by
          rcases Nat.lt_or_ge i X.N.length with q | q
          · exact q
          · rw [List.getElem?_eq_none q] at hn; cases hn
        have e3 : σ[i]? = some (some (.ref a)) := e3 (by rw [I.len]; exact hi)
        obtain ⟨g1, d1, _⟩ := gl_in c j1
        obtain ⟨fa, fd, e, m1, m2, m3, m4, m5, m6⟩ := c.wd k x m y str (eq_of_beq j2) hy hw
        have P1 := pe_wrd (X := X) (a := a) (p := px) (q := pn') (o := pc) (i := i) (pn := pn) m2 hz hf g1 m1 m3 m4 m5 m6 hn hv hd hcd d1
        exact (pss_cons (ps_ret (pos := p) P1) pss_nil).run pins s σ H D I ⟨e3, q⟩
    · cases h
  · cases h
theorem ps_tryWrdD {l i k : Nat} {b : Sms} {a : List Stmt} {x n : Str} {np p2 p : Pos} {r : Stmt} (c : CtxS g G C W X S) (h0 : S.locl i n = true) (hs : S.slot i n = true) (h1 : S.gl x = true) (h2 : g.errs[l]? = some x) (h3 : wrdB g S n k r = true)
    (hb : ∀ (W2 : WX) (X2 : L2.Cx), CtxS g G C W2 X2 S → PSs X2 a (tS G W2 Fc B (exSs C b))) :
    PS X (.Try a [.ExceptHandler (some (.Name x np)) (some n) [r] p2] [] [] p) (tS G W Fc B (exS C (.try_ b [(l, some i, .word k)]))) := by
  obtain ⟨hg, hd, _⟩ := gl_in c.e h1
  obtain ⟨e1, e2, e3, e4⟩ := c.e.er l x h2
  obtain ⟨hn, hv, _, _⟩ := slot_in c.e hs
  have hln : X.env.kindOf n = some .local := by
    unfold Sc.locl at h0
    rw [Bool.and_eq_true, beq_iff_eq, beq_iff_eq] at h0
    show X.env.scope.names.lookup n = _
    rw [c.e.hsc]; exact h0.2
  refine PS.imp (ps_try_as (c := .ref (G.ea l)) (i := i) (tb := fun W2 => tS G W2 Fc B (exSs C b)) (ts := fun a0 cls dd => tsWrd X G g C i k a0 cls dd) c.stk c.fr c.e.nd hn hln ⟨hg, hd, .inl e1⟩ c.e.tk (fun W2 pn xe tk ow => hb W2 _ (c.tr tk ow)) fun a0 oe cls dd pn hz hf => wrd_suite c.e hs h3 a0 oe cls dd pn hz hf) fun D σ H h => ?_
  obtain ⟨ρ, S0, pf⟩ := h
  refine ⟨ρ, S0, ?_⟩
  replace pf : PFl G Fc W B D (match exSs C b ρ with
    | .exc c ρ' => hdF C c ρ' [(l, some i, .word k)]
    | r => r) := pf
  cases hr : exSs C b ρ with
  | nx ρ' => rw [hr] at pf; exact pf
  | rt d' => rw [hr] at pf; exact pf
  | bad => rw [hr] at pf; exact pf
  | exc m ρ' =>
    rw [hr] at pf
    intro σ2 H2 S2
    replace pf : PFl G Fc W B D (match C.sub m l with
      | some true => (match C.word k m with
        | some s => .rt (.str s)
        | none => .bad)
      | some false => .exc m ρ'
      | none => .bad) := pf
    cases hs1 : C.sub m l with
    | none => rw [hs1] at pf; exact pf.elim
    | some t =>
      rw [hs1] at pf
      have em := c.e.sb m l t hs1
      cases t with
      | true =>
        refine ⟨true, em, fun _ a0 _ => ?_, fun z => by cases z⟩
        cases hs2 : C.word k m with
        | none => simp only [hs2] at pf; exact pf.elim
        | some str =>
          simp only [hs2] at pf
          obtain ⟨y, hy, ky⟩ := c.e.sx.ki m l true hs1
          have so := c.e.wk k m str hs2
          exact ⟨m, y, str, rfl, rfl, hy, hs2, fun q => by rw [List.getElem?_set_self (by rw [List.length_set] at q; exact q)], fun H' e => pf _ _ (by obtain ⟨F2, S3⟩ := S2; exact S3.sm.trans e) (.str _ so)⟩
      | false => exact ⟨false, em, (fun z => by cases z), fun _ => pf σ2 H2 S2⟩
/-- what the suite asks -/
def tsIsA (K : PySem.W.Frag) (i : Nat) (cv : Value) (a : Addr) (cls : Value) (d : Option Addr) : TS := fun D σ H => ∃ D0 b, cls = .ref D0 ∧ d = none ∧ ExcC K D0 ∧ (i < σ.length → σ[i]? = some (some (.ref a))) ∧ PySem.W.kitOne K (.ref D0) cv = some b ∧ PySem.W.kitOne K (.ref D0) (.type "ValueError") = some true ∧ D.rt (.bl b) H
theorem isa_suite {X : L2.Cx} {k i : Nat} {n : Str} {r : Stmt} (c : CtxE g G C W X S) (hs : S.slot i n = true) (h : isaB g S n k r = true) (a : Addr) (oe : Obj) (cls : Value) (d : Option Addr) (pn : List (Addr × Obj)) (hz : Zc cls d oe) (hf : ∃ vs, oe.data = .fields vs) :
    PSs (X.suite a ((a, oe) :: pn)) [r] (tsIsA X.K i (.ref (G.ea k)) a cls d) := by
  refine ⟨fun pins s σ H D I w => ?_⟩
  obtain ⟨D0, b, e1, e2, hC, e3, e4, e5, q⟩ := w
  subst e1 e2
  unfold isaB at h
  split at h
  · rename_i v p hv
    obtain rfl := vRet_eq hv
    split at h
    · rename_i x y bp hb
      obtain rfl := vBool_eq hb
      obtain ⟨h1, h2⟩ := and2 h
      unfold isEB at h1
      unfold isVB at h2
      split at h1
      · rename_i f m z p1 q1 r1 o1 w1
        obtain rfl := vIsE_eq w1
        split at h2
        · rename_i f2 m2 z2 p2 q2 r2 o2 w2
          obtain rfl := vIsE_eq w2
          obtain ⟨j1, j⟩ := and2 h1
          obtain ⟨j2, j⟩ := and2 j
          obtain ⟨j3, j⟩ := and2 j
          obtain ⟨j4, j5⟩ := and2 j
          obtain ⟨k1, k'⟩ := and2 h2
          obtain ⟨k2, k'⟩ := and2 k'
          obtain ⟨k3, k'⟩ := and2 k'
          obtain ⟨k4, k5⟩ := and2 k'
          have j1 := eq_of_beq j1
          have k1 := eq_of_beq k1
          have j3 := eq_of_beq j3
          have k3 := eq_of_beq k3
          have k5 := eq_of_beq k5
          subst j1 j3 k5
          subst k1 k3
          obtain ⟨hn, hv, hd, hcd⟩ := slot_in c hs
          have hi : i < X.N.length := by
            rcases Nat.lt_or_ge i X.N.length with q | q
            · exact q
            · rw [List.getElem?_eq_none q] at hn; cases hn
          have e3 : σ[i]? = some (some (.ref a)) := e3 (by rw [I.len]; exact hi)
          obtain ⟨g1, _, _⟩ := gl_in c j2
          obtain ⟨g2, d2, n2⟩ := gl_in c j4
          obtain ⟨g3, d3, n3⟩ := gl_in c k4
          have hm : X.mg "isinstance" = none := c.bi _ (by simp [bltS])
          have hmv : X.mg "ValueError" = none := c.bi _ (by simp [bltS])
          obtain ⟨e, _⟩ := c.er k _ (eq_of_beq j5)
          have P1 := pe_isE (X := X) (p := p1) (q := q1) (o := o1) (i := i) (pn := pn) hC hz hf g1 hm hn hv hd hcd (v := .ref (G.ea k)) (cv := .ref (G.ea k)) (pe_glob (X := X.suite a ((a, oe) :: pn)) (pos := r1) g2 e rfl d2) (fun u z => z)
          have P2 := pe_isE (X := X) (p := p2) (q := q2) (o := o2) (i := i) (pn := pn) hC hz hf g1 hm hn hv hd hcd (v := .ty "ValueError") (cv := .type "ValueError") (pe_bltn (X := X.suite a ((a, oe) :: pn)) (pos := r2) g3 hmv boot_ValueError rfl n3 d3) (fun u z => z)
          have P3 := ps_ret (pos := p) (pe_and (pos := bp) P1 (pe_one P2))
          refine (pss_cons P3 pss_nil).run pins s σ H D I ?_
          refine ⟨b, e3, e4, b, rfl, ?_⟩
          cases b with
          | true => rw [if_pos rfl]; exact ⟨true, e3, e5, q⟩
          | false => rw [if_neg Bool.false_ne_true]; exact q
        · cases h2
      · cases h1
    · cases h
  · cases h
theorem ps_tryIsD {l i k : Nat} {b : Sms} {a : List Stmt} {x n : Str} {np p2 p : Pos} {r : Stmt} (c : CtxS g G C W X S) (h0 : S.locl i n = true) (hs : S.slot i n = true) (h1 : S.gl x = true) (h2 : g.errs[l]? = some x) (h3 : isaB g S n k r = true)
    (hb : ∀ (W2 : WX) (X2 : L2.Cx), CtxS g G C W2 X2 S → PSs X2 a (tS G W2 Fc B (exSs C b))) :
    PS X (.Try a [.ExceptHandler (some (.Name x np)) (some n) [r] p2] [] [] p) (tS G W Fc B (exS C (.try_ b [(l, some i, .isA i k)]))) := by
  obtain ⟨hg, hd, _⟩ := gl_in c.e h1
  obtain ⟨e1, e2, e3, e4⟩ := c.e.er l x h2
  obtain ⟨hn, hv, _, _⟩ := slot_in c.e hs
  have hln : X.env.kindOf n = some .local := by
    unfold Sc.locl at h0
    rw [Bool.and_eq_true, beq_iff_eq, beq_iff_eq] at h0
    show X.env.scope.names.lookup n = _
    rw [c.e.hsc]; exact h0.2
  refine PS.imp (ps_try_as (c := .ref (G.ea l)) (i := i) (tb := fun W2 => tS G W2 Fc B (exSs C b)) (ts := fun a0 cls dd => tsIsA X.K i (.ref (G.ea k)) a0 cls dd) c.stk c.fr c.e.nd hn hln ⟨hg, hd, .inl e1⟩ c.e.tk (fun W2 pn xe tk ow => hb W2 _ (c.tr tk ow)) fun a0 oe cls dd pn hz hf => isa_suite c.e hs h3 a0 oe cls dd pn hz hf) fun D σ H h => ?_
  obtain ⟨ρ, S0, pf⟩ := h
  refine ⟨ρ, S0, ?_⟩
  replace pf : PFl G Fc W B D (match exSs C b ρ with
    | .exc c ρ' => hdF C c ρ' [(l, some i, .isA i k)]
    | r => r) := pf
  cases hr : exSs C b ρ with
  | nx ρ' => rw [hr] at pf; exact pf
  | rt d' => rw [hr] at pf; exact pf
  | bad => rw [hr] at pf; exact pf
  | exc m ρ' =>
    rw [hr] at pf
    intro σ2 H2 S2
    replace pf : PFl G Fc W B D (match C.sub m l with
      | some true => (match C.sub m k with
        | some b => .rt (.bl b)
        | none => .bad)
      | some false => .exc m ρ'
      | none => .bad) := pf
    cases hs1 : C.sub m l with
    | none => rw [hs1] at pf; exact pf.elim
    | some t =>
      rw [hs1] at pf
      have em := c.e.sb m l t hs1
      cases t with
      | true =>
        refine ⟨true, em, fun _ a0 _ => ?_, fun z => by cases z⟩
        cases hs2 : C.sub m k with
        | none => simp only [hs2] at pf; exact pf.elim
        | some t2 =>
          simp only [hs2] at pf
          obtain ⟨y, hy, ky⟩ := c.e.sx.ki m k t2 hs2
          exact ⟨G.ea m, t2, rfl, rfl, c.e.sx.ec m y hy, fun q => by rw [List.getElem?_set_self (by rw [List.length_set] at q; exact q)], ky, c.e.sx.kv m y hy, pf _ _ (by obtain ⟨F2, S3⟩ := S2; exact S3.sm) (.bl _)⟩
      | false => exact ⟨false, em, (fun z => by cases z), fun _ => pf σ2 H2 S2⟩
theorem par_in {m : Bool} {e : Ex} {a : Expr} (c : CtxE g G C W X S) (h : parE g S m e a = true) : PE X a (mtE G W m (ev C e)) ∧ (m = true → lstOnly (ev C e)) := by
  unfold parE at h
  cases m with
  | false => exact ⟨(sndE e a W X S c h).1, fun z => by cases z⟩
  | true =>
    obtain ⟨h1, h2⟩ := and2 h
    refine ⟨sndF c h2, fun _ ρ => ?_⟩
    cases e <;> try cases h1
    rename_i es
    show match (evs C es ρ).bnd fun ds => .ok (.lst ds) with
      | .ok (.lst _) => True
      | .ok _ => False
      | _ => True
    cases evs C es ρ <;> trivial
theorem locl_in {i : Nat} {x : Str} (c : CtxE g G C W X S) (h : S.locl i x = true) : X.N[i]? = some x ∧ X.env.scope.names.lookup x = some .local := by
  unfold Sc.locl at h
  obtain ⟨h1, h2⟩ := and2 h
  rw [c.hN, c.hsc]
  exact ⟨eq_of_beq h1, eq_of_beq h2⟩
theorem apart_in {x y : Str} (h : apart x y = true) : (x == y) = false ∧ (y == x) = false := by
  unfold apart at h
  obtain ⟨h1, h2⟩ := and2 h
  exact ⟨by simpa using h1, by simpa using h2⟩
theorem not_in {b : Bool} (h : (!b) = true) : b = false := by cases b <;> first | rfl | cases h
theorem ps_parD {is : List (Nat × Bool)} {es : Exs} {ts vs : List Expr} {kt k2 : Nat} {pt pt2 pos : Pos} (c : CtxE g G C W X S) (h : parB g S is es ts vs = true) :
    PS X (.Assign [.Tuple ts kt pt] (.Tuple vs k2 pt2) pos) (tS G W Fc B fun ρ => (evs C es ρ).thn ρ fun ds => ofO (parL is ds ρ)) := by
  have bk : (S.sc.kind == .function) = true → X.env.blockKind = .function := fun h => by
    have := eq_of_beq h
    unfold Env.blockKind
    rw [c.hsc, this]; rfl
  unfold parB at h
  split at h
  · rename_i i m j n e f tx ty a b
    split at h
    · rename_i x px y py hx hy
      obtain rfl := vName_eq hx
      obtain rfl := vName_eq hy
      obtain ⟨h1, h⟩ := and2 h
      obtain ⟨h2, h⟩ := and2 h
      obtain ⟨h3, h⟩ := and2 h
      obtain ⟨h4, h⟩ := and2 h
      obtain ⟨h5, h⟩ := and2 h
      obtain ⟨h6, h⟩ := and2 h
      obtain ⟨h7, h⟩ := and2 h
      obtain ⟨h8, h⟩ := and2 h
      obtain ⟨h9, h⟩ := and2 h
      obtain ⟨h10, h⟩ := and2 h
      obtain ⟨h11, h12⟩ := and2 h
      obtain ⟨i1, i2⟩ := locl_in c h1
      obtain ⟨j1, j2⟩ := locl_in c h2
      obtain ⟨a1, a2⟩ := apart_in h5
      obtain ⟨p1, q1⟩ := par_in c h11
      obtain ⟨p2, q2⟩ := par_in c h12
      exact ps_par2D c.calm c.nd i1 j1 (of_decide_eq_true h3) i2 j2 p1 p2 q1 q2 (not_in h6) (not_in h7) (swapped_two i2 j2 (bk h10) h4 a1 a2 (not_in h6) (not_in h7) (not_in h8) (not_in h9))
    · cases h
  · rename_i i m j n l o e f z0 tx ty tz a b d
    split at h
    · rename_i x px y py z pz hx hy hz
      obtain rfl := vName_eq hx
      obtain rfl := vName_eq hy
      obtain rfl := vName_eq hz
      obtain ⟨h1, h⟩ := and2 h
      obtain ⟨h2, h⟩ := and2 h
      obtain ⟨h3, h⟩ := and2 h
      obtain ⟨h4, h⟩ := and2 h
      obtain ⟨h5, h⟩ := and2 h
      obtain ⟨h6, h⟩ := and2 h
      obtain ⟨h7, h⟩ := and2 h
      obtain ⟨h8, h⟩ := and2 h
      obtain ⟨h9, h⟩ := and2 h
      obtain ⟨h10, h⟩ := and2 h
      obtain ⟨h11, h⟩ := and2 h
      obtain ⟨h12, h⟩ := and2 h
      obtain ⟨h13, h⟩ := and2 h
      obtain ⟨h14, h15⟩ := and2 h
      obtain ⟨i1, i2⟩ := locl_in c h1
      obtain ⟨j1, j2⟩ := locl_in c h2
      obtain ⟨l1, l2⟩ := locl_in c h3
      obtain ⟨n1, h4⟩ := and2 h4
      obtain ⟨n2, n3⟩ := and2 h4
      obtain ⟨s1, s2⟩ := and2 h5
      obtain ⟨r1, h6⟩ := and2 h6
      obtain ⟨r2, r3⟩ := and2 h6
      obtain ⟨a1, a2⟩ := apart_in r1
      obtain ⟨b1, b2⟩ := apart_in r2
      obtain ⟨c1, c2⟩ := apart_in r3
      obtain ⟨p1, q1⟩ := par_in c h13
      obtain ⟨p2, q2⟩ := par_in c h14
      obtain ⟨p3, q3⟩ := par_in c h15
      exact ps_par3D c.calm c.nd i1 j1 l1 (of_decide_eq_true n1) (of_decide_eq_true n2) (of_decide_eq_true n3) i2 j2 l2 p1 p2 p3 q1 q2 q3 (not_in h7) (not_in h8) (not_in h9) (swapped_three i2 j2 l2 (bk h12) s1 s2 a1 a2 b1 b2 c1 c2 (not_in h7) (not_in h8) (not_in h9) (not_in h10) (not_in h11))
    · cases h
  · cases h
end
variable {g : Gt} {G : Ge} {C : Cal}
/-- a list of statements; where t, a token is out ahead of it -/
def PSF (t : Bool) (X : L2.Cx) (sts : List Stmt) (T : TS) : Prop := ∀ (pins : List (Addr × Obj)) (s : Shared) (σ : VS) (H : Hp) (D : Ends), (t = true → 1 ≤ s.toks) → Inv X pins σ H s → T D σ H → wpAny (model X.prog X.w) X.A (execs sts X.env) (SP X pins D) X.xe s
theorem PSF.of {t : Bool} {X : L2.Cx} {sts : List Stmt} {T : TS} (h : PSs X sts T) : PSF t X sts T := fun pins s σ H D _ I q => h.run pins s σ H D I q
theorem PSF.plain {X : L2.Cx} {sts : List Stmt} {T : TS} (h : PSF false X sts T) : PSs X sts T := ⟨fun pins s σ H D I q => h pins s σ H D (fun z => nomatch z) I q⟩
theorem psf_frzD {t : Bool} {X : L2.Cx} {G : Ge} {W : WX} {Fc : Addr → Prop} {B : Hp} {a : List Stmt} {ma : En → Fl} {f : En → Fl} (hf : ∀ ρ σ H D, St2 G Fc B ρ σ H → PFl G Fc W B D ((f ρ).nxt ma) → tS G W Fc B ma D σ H) (h : PSF t X a (tS G W Fc B ma)) : PSF t X a (tS G W Fc B fun ρ => (f ρ).nxt ma) := fun pins s σ H D h0 I q => by
  obtain ⟨ρ, S, p⟩ := q
  exact h pins s σ H D h0 I (hf ρ σ H D S p)
theorem strict_set {x : Str} {px p : Pos} {v : Expr} {env : Env} (hs : swapsWith v (some (.Name x px)) p.line env = pure false) (h : Strict (eval v env)) : Strict (exec (.Assign [.Name x px] v p) env) := by
  rw [exec_Assign_Name env x px v p hs]
  exact Strict.right fun _ => Strict.left h
theorem strict_tokS {st : Stmt} {env : Env} (h : tokS st = true) : Strict (exec st env) := by
  unfold tokS at h
  split at h
  · rename_i t v p hv
    obtain rfl := vAsg_eq hv
    split at h
    · rename_i x hx
      obtain ⟨x, px⟩ := x
      obtain rfl := vName_eq hx
      obtain ⟨h1, h2⟩ := and2 h
      exact strict_set (swaps_ok h1) (strict_tok h2)
    · cases h
  · cases h
theorem psf_consD {t : Bool} {X : L2.Cx} {G : Ge} {W : WX} {Fc : Addr → Prop} {B : Hp} {st : Stmt} {a : List Stmt} {ma mb : En → Fl} (h1 : PS X st (tS G W Fc B ma) ∨ (t = true ∧ PST X st (tS G W Fc B ma))) (h2 : PSF (t || tokS st) X a (tS G W Fc B mb)) : PSF t X (st :: a) (tS G W Fc B fun ρ => (ma ρ).nxt mb) := by
  intro pins s σ H D h0 I h
  have hT : tS G W Fc B ma { D with nx := tS G W Fc B mb D } σ H := by
    obtain ⟨ρ, S, p⟩ := h
    exact ⟨ρ, S, PFl.nxt p⟩
  have r1 : wpAny (model X.prog X.w) X.A (exec st X.env) (SP X pins { D with nx := tS G W Fc B mb D }) X.xe s := by
    rcases h1 with h1 | ⟨e, h1⟩
    · exact h1.run pins s σ H _ I hT
    · exact h1 pins s σ H _ (h0 e) I hT
  have r2 : wpAny (model X.prog X.w) X.A (exec st X.env) (fun f s1 => ((t || tokS st) = true → 1 ≤ s1.toks) ∧ SP X pins { D with nx := tS G W Fc B mb D } f s1) X.xe s := by
    cases ht : t with
    | true => exact wpAny_mono (PySem.wpAny_toks_of (h0 ht) r1) (fun f s1 z => ⟨fun _ => z.1, z.2⟩) fun _ _ z => z.2
    | false =>
      cases hk : tokS st with
      | true => exact wpAny_mono ((strict_tokS hk).any r1) (fun f s1 z => ⟨fun _ => z.1, z.2⟩) fun _ _ z => z
      | false => exact thn r1 fun f s1 z => ⟨(fun q => absurd q Bool.false_ne_true), z⟩
  refine wpAny_execs_cons (thn r2 fun f s1 q => ?_)
  obtain ⟨hk, q⟩ := q
  cases f with
  | next =>
    obtain ⟨σ', H', I', q⟩ := q
    exact h2 pins s1 σ' H' D hk I' q
  | ret v => exact q
  | brk => exact q
  | cont => exact q
theorem hotC_ok {c : Ex} {e : Expr} (k : CtxE g G C W X S) (h : hotC g S c e = true) : PTP Pt X e (tT G W (ev C c)) := by
  unfold hotC at h
  split at h
  · rename_i c1 c2 u v p hc he
    obtain rfl := exOr_eq hc
    obtain rfl := vBool_eq he
    split at h
    · rename_i c3 q p2 hc3 hu
      obtain rfl := exNot_eq hc3
      obtain rfl := vUn_eq hu
      split at h
      · rename_i ks es n p3 x y p4 hc4 hq
        obtain rfl := exCal_eq hc4
        obtain rfl := vFn_eq hq
        split at h
        · rename_i d b n2 p5 x2 p6 he2 hx
          obtain rfl := ex2_eq he2
          obtain rfl := vFn_eq hx
          split at h
          · rename_i f fs hd
            obtain rfl := exCal_eq hd
            split at h
            · rename_i a hf1
              obtain rfl := ex1_eq hf1
              obtain ⟨h1, h⟩ := and2 h
              obtain ⟨h2, h⟩ := and2 h
              obtain ⟨h3, h⟩ := and2 h
              obtain ⟨h4, h⟩ := and2 h
              obtain ⟨h5, h⟩ := and2 h
              obtain ⟨h6, h⟩ := and2 h
              obtain ⟨h7, h⟩ := and2 h
              obtain ⟨h8, h⟩ := and2 h
              obtain ⟨h9, h⟩ := and2 h
              obtain ⟨h10, h11⟩ := and2 h
              have q1 : PEP Pt X (.Call (.Name n2 p5) [x2] [] p6) (tE G W (ev C (.call f (.cons a .nil)))) := pep_callT k h5 (of_decide_eq_true h6) (eq_of_beq h7) h8 (sndE a x2 W X S k h9).1
              have q2 : PEP Pt X (.Call (.Name n p3) [.Call (.Name n2 p5) [x2] [] p6, y] [] p4) (tE G W (ev C (.call ks (.cons (.call f (.cons a .nil)) (.cons b .nil))))) := pep_call2 k h1 (eq_of_beq h2) h3 h4 q1 (sndE b y W X S k h10).1
              exact ptp_or (ptp_not (ptp_val k.hK q2 (val_ok rfl))) (pw_or1 (sndE c2 v W X S k h11).2.1)
            · cases h
          · cases h
        · cases h
      · cases h
    · cases h
  · cases h
theorem hotD_ok {z : Nat} {x : Str} {c : Ex} {e : Expr} (k : CtxE g G C W X S) (hl : S.locl z x = true) (hs : S.slot z x = true) (h : hotD g S z x c e = true) : HotT X z x [e] (tT G W (ev C c)) := by
  unfold hotD at h
  split at h
  · rename_i c1 r l r' p hc he
    obtain rfl := exCmp_eq hc
    obtain rfl := vCmp_eq he
    split at h
    · rename_i c2 m q m' p2 hc2 hb
      obtain rfl := exMod_eq hc2
      obtain rfl := vBin_eq hb
      split at h
      · rename_i f es n p3 a p4 hc3 hq
        obtain rfl := exCal_eq hc3
        obtain rfl := vFn_eq hq
        split at h
        · rename_i c3 he1
          obtain rfl := ex1_eq he1
          split at h
          · rename_i t z' hr
            obtain rfl := exRep_eq hr
            obtain ⟨h0, h⟩ := and2 h
            have h0 := of_decide_eq_true h0
            obtain ⟨h1, h⟩ := and2 h
            obtain ⟨h2, h⟩ := and2 h
            obtain ⟨h3, h⟩ := and2 h
            obtain ⟨h4, h⟩ := and2 h
            obtain ⟨h5, h⟩ := and2 h
            obtain ⟨h6, h7⟩ := and2 h
            subst h0
            have q1 := he_repT k hl hs h4
            exact PTP.hot (ptp_cmp .eq k.un k.hK (pep_mod (he_call k h1 (eq_of_beq h2) q1 h3).p (sndE m m' W X S k h5).1) (sndE r r' W X S k h6).1 (marks_ok h7))
          · cases h
        · cases h
      · cases h
    · cases h
  · cases h
theorem hotA_ok {i : Nat} {e : Ex} {st : Stmt} (c : CtxS g G C W X S) (h : hotA g S i e st = true) (Fc : Addr → Prop) (B : Hp) : PST X st (tS G W Fc B fun ρ => (ev C e ρ).thn ρ fun d => .nx (putS ρ i d)) := by
  unfold hotA at h
  split at h
  · rename_i z fs d t v p he hv
    obtain rfl := exCom_eq he
    obtain rfl := vAsg_eq hv
    split at h
    · rename_i y py elt tg iter d' scope pl ht hl
      obtain rfl := vName_eq ht
      obtain rfl := vLc_eq hl
      split at h
      · rename_i x px htg
        obtain rfl := vName_eq htg
        obtain ⟨h0, h⟩ := and2 h
        obtain ⟨h1, h⟩ := and2 h
        obtain ⟨h2, h⟩ := and2 h
        obtain ⟨h3, h⟩ := and2 h
        obtain ⟨h4, h⟩ := and2 h
        obtain ⟨h5, h⟩ := and2 h
        obtain ⟨h6, h⟩ := and2 h
        obtain ⟨h7, h⟩ := and2 h
        obtain ⟨h8, h9⟩ := and2 h
        obtain ⟨k1, k2, k3⟩ := loc_in c.e.hN c.e.hsc c.e.hfn h2
        unfold swB at h0
        obtain ⟨j1, hs3⟩ := and2 h0
        obtain ⟨hs1, hs2⟩ := and2 j1
        have hs1 := eq_of_beq hs1
        have h1 := eq_of_beq h1
        have sw : swapsWith (.ListComp elt [⟨.Name x px, iter, [d'], 0⟩] scope pl) (some (.Name y py)) p.line X.env = pure true := sw_true (by rw [c.e.hsc]; exact h1) (by rw [c.e.hsc]; exact hs1) hs2 (by simpa using hs3)
        have hi0 : X.N[z]? = some x := by
          have q := h4
          unfold Sc.locl at q
          obtain ⟨q1, _⟩ := and2 q
          rw [c.e.hN]
          exact eq_of_beq q1
        refine pst_imp (pst_setLcT (gg := gD G (.one z)) c.e.calm c.e.nd k1 (by rw [c.e.hsc]; exact hs1) sw (sndE (.lit (.str fs)) iter W X S c.e h6).1 (blk_in c.e.hN c.e.hsc h3) hi0 (fun s H A cl fp => ?_) (fun v σ H Q h => ?_) (fun s H A cl fp => hotD_ok (c.e.blk (s := s) (H := H) (A := A) (cl := cl) (fp := fp)) h4 h5 h9) (fun s H A cl fp => (sndE (.slot z) elt W0 _ (S.blk scope) c.e.blk h8).1) (folded_ok h7)) fun D σ H h => ?_
        · have q := h4
          unfold Sc.locl at q
          obtain ⟨_, q2⟩ := and2 q
          rw [(c.e.blk (s := s) (H := H) (A := A) (cl := cl) (fp := fp)).hsc]
          exact eq_of_beq q2
        · obtain ⟨F, ρ, d, ρ', E, r, e, k⟩ := h
          cases e
          exact k _ (E.putD r z) (fun vs hv => wipe_set (hv z (by simp [tgs]))) fun j hj => List.getElem?_set_ne fun e => hj (by simp [tgs, e])
        · refine set_fin (fun σ H Q h => ?_) h
          obtain ⟨F, ρ, E, p⟩ := h
          have t := tLcD (G := G) (W := W) (mi := fun _ => R.toW true (.ok (.str fs)) walkD) (mc := ev C d) (me := ev C (.slot z)) (own := [z]) (tgm := .one z) (fun i hi => hi) E p
          exact iStr_lit t
      · cases h
    · cases h
  · cases h
theorem hotS_ok {m : Sm} {st : Stmt} (c : CtxS g G C W X S) (h : hotS g S m st = true) (Fc : Addr → Prop) (B : Hp) : PST X st (tS G W Fc B (exS C m)) := by
  unfold hotS at h
  split at h
  · exact hotA_ok c h Fc B
  · rename_i cc d
    split at h
    · rename_i e r p hv
      obtain rfl := vIfS_eq hv
      obtain ⟨h1, h2⟩ := and2 h
      unfold retB at h1
      cases hr : vRet r with
      | none => rw [hr] at h1; cases h1
      | some z =>
        obtain ⟨w, pr⟩ := z
        rw [hr] at h1
        obtain rfl := vRet_eq hr
        cases hw : vConst w with
        | none => simp only [hw] at h1; cases h1
        | some z =>
          obtain ⟨k, kk, pk⟩ := z
          simp only [hw] at h1
          obtain rfl := vConst_eq hw
          exact pst_ifD (hotC_ok c.e h2) (pss_consD (ps_retD (pe_litD h1)) pss_nilD) pss_nilD
    · cases h
  · cases h
mutual
theorem sndS : ∀ (m : Sm) (st : Stmt) (W : WX) (X : L2.Cx) (S : Sc), CtxS g G C W X S → chkS g S m st = true → ∀ (Fc : Addr → Prop) (B : Hp), PS X st (tS G W Fc B (exS C m))
  | .set i e, st, W, X, S, c, h, Fc, B => by
    unfold chkS at h
    split at h
    · rename_i t v p hv
      obtain rfl := vAsg_eq hv
      split at h
      · rename_i x px hx
        obtain rfl := vName_eq hx
        obtain ⟨h1, h2⟩ := and2 h
        obtain ⟨k1, k2, k3⟩ := loc_in c.e.hN c.e.hsc c.e.hfn h1
        split at h2
        · obtain ⟨h3, h4⟩ := and2 h2
          exact ps_setD c.e.nd k1 k2 (sndE e v W X S c.e h4).1 (swaps_ok h3) k3
        · rename_i a gs scope pl hlc
          split at h2
          · rename_i hsw
            obtain ⟨h3, h4⟩ := and2 h2
            exact set_lc c h4 h1 ⟨_, _, _, _, hlc, hsw⟩ (eq_of_beq h3)
          · rename_i hsw
            refine ps_setD c.e.nd k1 k2 (sndE e v W X S c.e h2).1 ?_ k3
            obtain rfl := vLc_eq hlc
            rw [sw_val]
            congr 1
            have hk : X.env.kindOf x = S.sc.names.lookup x := by show X.env.scope.names.lookup x = _; rw [c.e.hsc]
            rw [hk]
            unfold swB at hsw
            cases hb : (X.env.blockKind == .function) with
            | false => rfl
            | true =>
              revert hsw
              generalize (S.sc.names.lookup x == some .local) = b1
              generalize (px.line == pl.line) = b2
              generalize (scope.names.any fun (n, k) => n == x && (k == .local || k == .cell)) = b3
              cases b1 <;> cases b2 <;> cases b3 <;> simp
      · cases h
    · cases h
  | .setM i e, st, W, X, S, c, h, Fc, B => by
    unfold chkS at h
    split at h
    · rename_i t v p hv
      obtain rfl := vAsg_eq hv
      split at h
      · rename_i x px hx
        obtain rfl := vName_eq hx
        obtain ⟨j1, h3⟩ := and2 h
        obtain ⟨h1, h2⟩ := and2 j1
        obtain ⟨k1, k2, k3⟩ := loc_in c.e.hN c.e.hsc c.e.hfn h1
        exact ps_setMD c.e.nd k1 k2 (sndF c.e h3) (swaps_ok h2) k3
      · cases h
    · cases h
  | .unp is e, st, W, X, S, c, h, Fc, B => by
    unfold chkS at h
    split at h
    · rename_i t v p hv
      obtain rfl := vAsg_eq hv
      split at h
      · rename_i es k q hx
        obtain rfl := vTup_eq hx
        obtain ⟨j1, h4⟩ := and2 h
        obtain ⟨j2, h3⟩ := and2 j1
        obtain ⟨h1, h2⟩ := and2 j2
        exact ps_unpD c.e.hK c.e.calm c.e.nd (names_in c.e.hN c.e.hsc c.e.hfn h3) (sndE e v W X S c.e h4).1 (sole_ok h1) (by
          rw [Bool.or_eq_true] at h2
          rcases h2 with h2 | h2
          · exact swapped_none2 h2
          · exact swapped_cell c.e.hsc h2)
      · cases h
    · cases h
  | .par is es, st, W, X, S, c, h, Fc, B => by
    unfold chkS at h
    split at h
    · rename_i t v p hv
      obtain rfl := vAsg_eq hv
      split at h
      · rename_i ts k1 q1 vs k2 q2 hx hy
        obtain rfl := vTup_eq hx
        obtain rfl := vTup_eq hy
        exact ps_parD c.e h
      · cases h
    · cases h
  | .app i e, st, W, X, S, c, h, Fc, B => by
    unfold chkS at h
    split at h
    · rename_i z p hv
      obtain rfl := vExp_eq hv
      split at h
      · rename_i o n ap a cp hz
        obtain rfl := vMe_eq hz
        split at h
        · rename_i x px hx
          obtain rfl := vName_eq hx
          obtain ⟨j1, h5⟩ := and2 h
          obtain ⟨j2, h4⟩ := and2 j1
          obtain ⟨j3, h3⟩ := and2 j2
          obtain ⟨h1, h2⟩ := and2 j3
          obtain rfl := eq_of_beq h1
          obtain ⟨k1, k2, k3, k4⟩ := slot_in c.e h3
          exact ps_appD k1 k2 k3 k4 (sndE e a W X S c.e h5).1 (star_ok h4) h2
        · cases h
      · cases h
    · cases h
  | .ext i e, st, W, X, S, c, h, Fc, B => by
    unfold chkS at h
    split at h
    · rename_i z p hv
      obtain rfl := vExp_eq hv
      split at h
      · rename_i o n ap a cp hz
        obtain rfl := vMe_eq hz
        split at h
        · rename_i x px hx
          obtain rfl := vName_eq hx
          obtain ⟨j1, h5⟩ := and2 h
          obtain ⟨j2, h4⟩ := and2 j1
          obtain ⟨j3, h3⟩ := and2 j2
          obtain ⟨h1, h2⟩ := and2 j3
          obtain rfl := eq_of_beq h1
          obtain ⟨k1, k2, k3, k4⟩ := slot_in c.e h3
          exact ps_extD k1 k2 k3 k4 (sndE e a W X S c.e h5).1 (star_ok h4) h2
        · cases h
      · cases h
    · cases h
  | .stx i j e, st, W, X, S, c, h, Fc, B => by
    unfold chkS at h
    split at h
    · rename_i t v p hv
      obtain rfl := vAsg_eq hv
      split at h
      · rename_i o y q hs
        obtain rfl := vSub_eq hs
        split at h
        · rename_i x px hx
          obtain rfl := vName_eq hx
          obtain ⟨j1, h5⟩ := and2 h
          obtain ⟨j2, h4⟩ := and2 j1
          obtain ⟨j3, h3⟩ := and2 j2
          obtain ⟨h1, h2⟩ := and2 j3
          obtain ⟨k1, k2, k3, k4⟩ := slot_in c.e h1
          exact ps_stxD k1 k2 k3 k4 (sndE e v W X S c.e h5).1 (sndE j y W X S c.e h4).1 (sole_ok h3) swapped_sub (fun _ => assign_sub h2)
        · cases h
      · cases h
    · cases h
  | .frz _, st, W, X, S, c, h, Fc, B => by unfold chkS at h; cases h
  | .wrd, st, W, X, S, c, h, Fc, B => by unfold chkS at h; cases h
  | .ret e, st, W, X, S, c, h, Fc, B => by
    unfold chkS at h
    split at h
    · rename_i v p hv
      obtain rfl := vRet_eq hv
      exact ps_retD (sndE e v W X S c.e h).1
    · cases h
  | .retM i, st, W, X, S, c, h, Fc, B => by
    unfold chkS at h
    split at h
    · rename_i v p hv
      obtain rfl := vRet_eq hv
      split at h
      · rename_i x px hx
        obtain rfl := vName_eq hx
        obtain ⟨k1, k2, k3, k4⟩ := slot_in c.e h
        exact ps_retMD k1 k2 k3 k4
      · cases h
    · cases h
  | .exp e, st, W, X, S, c, h, Fc, B => by
    unfold chkS at h
    split at h
    · rename_i v p hv
      obtain rfl := vExp_eq hv
      obtain ⟨h1, h2⟩ := and2 h
      exact ps_expD (sndE e v W X S c.e h2).1 (swaps_ok h1)
    · cases h
  | .rai k, st, W, X, S, c, h, Fc, B => by
    unfold chkS at h
    exact ps_raiD c.e h
  | .pass, st, W, X, S, c, h, Fc, B => by
    unfold chkS at h
    obtain ⟨p, h⟩ := Option.isSome_iff_exists.mp h
    obtain rfl := vPas_eq h
    exact ps_passD
  | .ite z a b, st, W, X, S, c, h, Fc, B => by
    unfold chkS at h
    split at h
    · rename_i e x y p hv
      obtain rfl := vIfS_eq hv
      obtain ⟨j1, h3⟩ := and2 h
      obtain ⟨h1, h2⟩ := and2 j1
      exact ps_ifD (sndE z e W X S c.e h1).2.1 ((sndSs a false x W X S c h2 Fc B).plain) ((sndSs b false y W X S c h3 Fc B).plain)
    · cases h
  | .for_ tg it b, st, W, X, S, c, h, Fc, B => by
    unfold chkS at h
    split at h
    · rename_i t i x p hv
      obtain rfl := vFor_eq hv
      obtain ⟨j1, h4⟩ := and2 h
      obtain ⟨j2, h3⟩ := and2 j1
      obtain ⟨h1, h2⟩ := and2 j2
      exact ps_forD c.own c.e.calm (sndI it t i W X S c.e h2 false) (tg_in c.e h3) (fun B => (sndSs b false x W X S c h4 Fc B).plain) (folded_ok h1)
    · cases h
  | .while_ n z b, st, W, X, S, c, h, Fc, B => by
    unfold chkS at h
    split at h
    · rename_i e x p hv
      obtain rfl := vWhl_eq hv
      obtain ⟨h1, h2⟩ := and2 h
      exact ps_whileD c.own (sndE z e W X S c.e h1).2.1 ((sndSs b false x W X S c h2 Fc B).plain)
    · cases h
  | .try_ b hs, st, W, X, S, c, h, Fc, B => by
    unfold chkS at h
    split at h
    · rename_i l d
      split at h
      · rename_i a x np r p2 p hv
        obtain rfl := vTry_eq hv
        obtain ⟨j1, h4⟩ := and2 h
        obtain ⟨j2, h3⟩ := and2 j1
        obtain ⟨h1, h2⟩ := and2 j2
        exact ps_tryD c h1 (eq_of_beq h2) h3 fun W2 X2 c2 => (sndSs b false a W2 X2 S c2 h4 Fc B).plain
      · cases h
    · rename_i l i d
      split at h
      · rename_i a x np r p2 p hv
        obtain rfl := vTry_eq hv
        obtain ⟨h1, j2⟩ := and2 h
        obtain ⟨h2, j3⟩ := and2 j2
        obtain ⟨h3, h4⟩ := and2 j3
        exact ps_tryAppD c h1 (eq_of_beq h2) h3 fun W2 X2 c2 => (sndSs b false a W2 X2 S c2 h4 Fc B).plain
      · cases h
    · rename_i l i j k
      split at h
      · rename_i a x np n r p2 p hv
        obtain rfl := vTryA_eq hv
        obtain ⟨h0, h⟩ := and2 h
        obtain ⟨hj, h⟩ := and2 h
        obtain ⟨hs, h⟩ := and2 h
        obtain ⟨h1, h⟩ := and2 h
        obtain ⟨h2, h⟩ := and2 h
        obtain ⟨h3, h4⟩ := and2 h
        have hj := of_decide_eq_true hj
        subst hj
        exact ps_tryIsD c h0 hs h1 (eq_of_beq h2) h3 fun W2 X2 c2 => (sndSs b false a W2 X2 S c2 h4 Fc B).plain
      · cases h
    · rename_i l i k
      split at h
      · rename_i a x np n r p2 p hv
        obtain rfl := vTryA_eq hv
        obtain ⟨h0, h⟩ := and2 h
        obtain ⟨hs, h⟩ := and2 h
        obtain ⟨h1, h⟩ := and2 h
        obtain ⟨h2, h⟩ := and2 h
        obtain ⟨h3, h4⟩ := and2 h
        exact ps_tryWrdD c h0 hs h1 (eq_of_beq h2) h3 fun W2 X2 c2 => (sndSs b false a W2 X2 S c2 h4 Fc B).plain
      · cases h
    · cases h
theorem sndSs : ∀ (ms : Sms) (t : Bool) (sts : List Stmt) (W : WX) (X : L2.Cx) (S : Sc), CtxS g G C W X S → chkSs g S ms t sts = true → ∀ (Fc : Addr → Prop) (B : Hp), PSF t X sts (tS G W Fc B (exSs C ms))
  | .nil, t, [], W, X, S, c, h, Fc, B => PSF.of pss_nilD
  | .nil, t, _ :: _, W, X, S, c, h, Fc, B => by unfold chkSs at h; cases h
  | .cons m ms, t, sts, W, X, S, c, h, Fc, B => by
    by_cases hf : ∃ i, m = .frz i
    · obtain ⟨i, rfl⟩ := hf
      have h' : chkSs g S ms t sts = true := by
        cases sts <;> (unfold chkSs at h; exact h)
      have := sndSs ms t sts W X S c h' Fc B
      show PSF t X sts (tS G W Fc B fun ρ => (frzF ρ i).nxt (exSs C ms))
      exact psf_frzD (f := fun ρ => frzF ρ i) (fun ρ σ H D S h => frz_ok ρ σ H D S h) this
    · cases sts with
      | nil =>
        cases m <;> first
          | exact absurd ⟨_, rfl⟩ hf
          | (unfold chkSs at h; cases h)
      | cons st sts =>
        have h' : ((chkS g S m st || (t && hotS g S m st)) && chkSs g S ms (t || tokS st) sts) = true := by
          cases m <;> first
            | exact absurd ⟨_, rfl⟩ hf
            | (unfold chkSs at h; exact h)
        obtain ⟨h1, h2⟩ := and2 h'
        have i2 := sndSs ms (t || tokS st) sts W X S c h2 Fc B
        rw [Bool.or_eq_true] at h1
        rcases h1 with h1 | h1
        · exact psf_consD (.inl (sndS m st W X S c h1 Fc B)) i2
        · obtain ⟨h0, h1⟩ := and2 h1
          exact psf_consD (.inr ⟨h0, hotS_ok c h1 Fc B⟩) i2
end
end Dk

/-! DkQ: the def that tells a word of the error that is handled. -/
namespace Dk
open PySem PySem.Spec PyProof.Rows L2
/-- whether the error that is handled is of a class; it stands under a name's first slot as the def of number 4096 -/
def isF (b : Bool) (ρ : En) : R := match (ρ[0]? : Option (Option Sl)) with
  | some (some (Sl.im (D.fn k))) => if k = 4096 then .ok (.bl b) else .bad
  | _ => .bad
structure CtxW (g : Gt) (G : Ge) (X : L2.Cx) (S : Sc) (a : Addr) (oe : Obj) (D0 : Addr) (bs : Nat → Bool) : Prop where
  hN : X.N = S.N
  hsc : X.env.scope = S.sc
  hfn : X.fn = S.fn
  nd : X.N.Nodup
  hK : X.K = G.K
  un : X.A.units + 65 < cLine
  mI : X.mg "isinstance" = none
  mV : X.mg "ValueError" = none
  er : ∀ j x, g.errs[j]? = some x → X.mg x = some (.ref (G.ea j))
  pn : (a, oe) ∈ X.pn
  hz : Zc (.ref D0) none oe
  hf : ∃ vs, oe.data = .fields vs
  ec : ExcC X.K D0
  ki : ∀ j, 1 ≤ j → j ≤ 5 → PySem.W.kitOne X.K (.ref D0) (.ref (G.ea j)) = some (bs j)
  kv : PySem.W.kitOne X.K (.ref D0) (.type "ValueError") = some true
  fa : G.fa 4096 = some a
section
variable {g : Gt} {G : Ge} {X : L2.Cx} {S : Sc} {a D0 : Addr} {oe : Obj} {bs : Nat → Bool} {W : WX} {Fc : Addr → Prop} {B : Hp} {i : Nat} {n x : Str} {e : Expr} {st : Stmt}
theorem call_isX {X : Cx} {a D : Addr} {oe : Obj} (C : ExcC X.K D) (hp : (a, oe) ∈ X.pn) (hz : Zc (.ref D) none oe) (hf : ∃ vs, oe.data = .fields vs) : CallR X (.builtin "isinstance") (rIsE X.K D a) := by
  intro pins s σ H xs us Q I r h
  obtain ⟨c, cv, b, rfl, hcv, e, q⟩ := h
  cases r with
  | cons rx rr =>
    cases rr with
    | cons rt rr =>
      cases rr
      cases rx
      have ec := hcv _ rt
      subst ec
      obtain ⟨hget, _⟩ := I.pin (a, oe) (List.mem_append.mpr (.inl hp))
      obtain ⟨vs, hv⟩ := hf
      have J : PySem.W.InstAt s.heap a oe D none := by
        obtain ⟨oc, od, oda, osl⟩ := oe
        obtain ⟨h1, h2⟩ := hz
        dsimp only at h1 h2 hv
        subst h1 h2 hv
        exact ⟨hget, rfl, rfl, trivial⟩
      exact PySem.W.kia_one (PySem.W.handS_kitx_exc C.hg C.hk C.hs C.hd C.ha C.hn C.ht C.hm) I.kIn J e (fun z => nomatch z) fun tk => ⟨.bl b, H, I.kept (t' := tk) fun _ _ z => z, rfl, q⟩
theorem slotW (hN : X.N = S.N) (hsc : X.env.scope = S.sc) (h : S.slot i x = true) : X.N[i]? = some x ∧ Vis X.env.scope x ∧ (x == ("__debug__" : Str)) = false ∧ (x == ("__classdict__" : Str)) = false := by
  unfold Sc.slot at h
  rw [Bool.and_eq_true, Bool.and_eq_true, beq_iff_eq] at h
  obtain ⟨⟨h1, h2⟩, h3⟩ := h
  rw [hN, hsc]
  refine ⟨h1, ?_, ?_, ?_⟩
  · unfold visB at h2
    unfold Vis
    split at h2
    · rename_i q; exact .inl q
    · rename_i q; exact .inr (.inl q)
    · rename_i q; exact .inr (.inr q)
    · cases h2
  · unfold dunder at h3
    cases q : (x == ("__debug__" : Str)) with
    | false => rfl
    | true => rw [q] at h3; cases h3
  · unfold dunder at h3
    cases q : (x == ("__classdict__" : Str)) with
    | false => rfl
    | true => rw [q] at h3; simp at h3
theorem glW (hsc : X.env.scope = S.sc) (h : S.gl x = true) : Gl X x ∧ (x == ("__debug__" : Str)) = false ∧ x ≠ ("__name__" : Str) := by
  unfold Sc.gl at h
  rw [Bool.and_eq_true, beq_iff_eq] at h
  obtain ⟨h1, h3⟩ := h
  refine ⟨?_, ?_, ?_⟩
  · show X.env.scope.names.lookup x = _
    rw [hsc]; exact h1
  · unfold dunder at h3
    cases q : (x == ("__debug__" : Str)) with
    | false => rfl
    | true => rw [q] at h3; cases h3
  · intro q
    subst q
    unfold dunder at h3
    rw [show (("__name__" : Str) == ("__name__" : Str)) = true from beq_self_eq_true _] at h3
    simp at h3
theorem pe_isW {v : V} {cv : Value} {b : Bool} {p q r o : Pos} (c : CtxW g G X S a oe D0 bs) (hn : S.slot 0 n = true) (hg : Gl X "isinstance") (hx : PE X (.Name x r) (tC v)) (rv : ∀ u, RelV v u → u = cv) (hb : PySem.W.kitOne X.K (.ref D0) cv = some b) :
    PE X (.Call (.Name "isinstance" p) [.Name n q, .Name x r] [] o) (tE G W (isF b)) := by
  obtain ⟨k1, k2, k3, k4⟩ := slotW c.hN c.hsc hn
  refine PE.imp (pe_callB (call_isX c.ec c.pn c.hz c.hf) hg c.mI boot_isinstance (pa_cons (pe_var (pos := q) k1 k2 k3 k4) (pa_cons hx pa_nil)) (by decide) (by decide) rfl rfl) fun σ H Q h => ?_
  obtain ⟨F, ρ, E, p⟩ := h
  replace p : Post G F W σ H Q (isF b ρ) := p
  unfold isF at p
  split at p
  · rename_i k hk
    split at p
    · rename_i h4
      subst h4
      obtain ⟨w, e1, e2⟩ := E.slot _ _ hk
      have e3 : w = .ref a := by
        replace e2 : Rep G (sol H F) w (.fn 4096) := e2
        cases e2 with
        | fn z => rw [c.fa] at z; cases z; rfl
      subst e3
      exact ⟨.ref a, e1, v, cv, b, rfl, rv, hb, p.ok (.bl _)⟩
    · exact p.elim
  · exact p.elim
theorem is_inW {k : Nat} (c : CtxW g G X S a oe D0 bs) (hn : S.slot 0 n = true) (h1 : 1 ≤ k) (h5 : k ≤ 5) (h : isEB g S n k e = true) : PE X e (tE G W (isF (bs k))) := by
  unfold isEB at h
  split at h
  · rename_i f m z p1 q1 r1 o1 w1
    obtain rfl := vIsE_eq w1
    obtain ⟨j1, j⟩ := and2 h
    obtain ⟨j2, j⟩ := and2 j
    obtain ⟨j3, j⟩ := and2 j
    obtain ⟨j4, j5⟩ := and2 j
    have j1 := eq_of_beq j1
    have j3 := eq_of_beq j3
    subst j1 j3
    obtain ⟨g1, _, _⟩ := glW c.hsc j2
    obtain ⟨g2, d2, n2⟩ := glW c.hsc j4
    exact pe_isW c hn g1 (v := .ref (G.ea k)) (cv := .ref (G.ea k)) (pe_glob (pos := r1) g2 (c.er k _ (eq_of_beq j5)) rfl d2) (fun u z => z) (c.ki k h1 h5)
  · cases h
theorem is_inV (c : CtxW g G X S a oe D0 bs) (hn : S.slot 0 n = true) (h : isVB S n e = true) : PE X e (tE G W (isF true)) := by
  unfold isVB at h
  split at h
  · rename_i f m z p1 q1 r1 o1 w1
    obtain rfl := vIsE_eq w1
    obtain ⟨j1, j⟩ := and2 h
    obtain ⟨j2, j⟩ := and2 j
    obtain ⟨j3, j⟩ := and2 j
    obtain ⟨j4, j5⟩ := and2 j
    have j1 := eq_of_beq j1
    have j3 := eq_of_beq j3
    have j5 := eq_of_beq j5
    subst j1 j3 j5
    obtain ⟨g1, _, _⟩ := glW c.hsc j2
    obtain ⟨g2, d2, n2⟩ := glW c.hsc j4
    exact pe_isW c hn g1 (v := .ty "ValueError") (cv := .type "ValueError") (pe_bltn (pos := r1) g2 c.mV boot_ValueError rfl n2 d2) (fun u z => z) c.kv
  · cases h
theorem isE_star {k : Nat} (h : isEB g S n k e = true) : notStar e = true := by
  unfold isEB at h
  split at h
  · rename_i w1; obtain rfl := vIsE_eq w1; rfl
  · cases h
theorem two_len {m1 m2 : En → R} : ∀ ρ ds, consL (m1 ρ) (consL (m2 ρ) (.ok [])) = .ok ds → ds.length ≤ 1000 := fun ρ ds h => by
  cases h1 : m1 ρ with
  | ok d => cases h2 : m2 ρ with
    | ok d' => rw [h1, h2] at h; cases h; simp
    | _ => rw [h1, h2] at h; cases h
  | _ => rw [h1] at h; cases h
/-- a list of two -/
def twoF (m1 m2 : En → R) (ρ : En) : R := (consL (m1 ρ) (consL (m2 ρ) (.ok []))).bnd fun ds => .ok (.lst ds)
def w1F (b : Nat → Bool) (ρ : En) : Fl := (twoF (isF (b 1)) (isF (b 2)) ρ).thn ρ fun d => setMF ρ 1 d
def w2F (b : Nat → Bool) (ρ : En) : Fl := ((getS ρ 1).bnd fun x => (twoF (isF (b 3)) (isF (b 4)) ρ).bnd fun y => binD .add x y).thn ρ fun d => setMF ρ 1 d
def w3F (b : Nat → Bool) (ρ : En) : Fl := appG ρ 1 (isF (b 5) ρ)
def wmF (m : Me) (ρ : En) : R := (getS ρ 1).bnd fun x => meR m x (consW (.ok (.bl true)) (.ok []))
def w4F (ρ : En) : Fl := (((wmF .countL ρ).bnd fun x => (R.ok (.int 1)).bnd fun y => cmpR .ne x y).bnd fun x => orR x ((isF true ρ).bnd notD)).thnW ρ fun d => ifF d (((R.ok (.str wTell)).ret ρ).nxt fun ρ => .nx ρ) (.nx ρ)
def lits (ss : List (List Nat)) : Rs := match ss with
  | [] => .ok []
  | s :: r => consL (.ok (.str s)) (lits r)
def w5F (ρ : En) : Fl := (((lits wNames).bnd fun ds => .ok (.tup ds)).bnd fun x => (wmF .indexL ρ).bnd fun y => ixD x y).ret ρ
theorem ps_w1 (c : CtxW g G X S a oe D0 bs) (hn : S.slot 0 n = true) (h : wkB1 g S n st = true) : PS X st (tS G W Fc B (w1F bs)) := by
  unfold wkB1 at h
  split at h
  · rename_i t v p hv
    obtain rfl := vAsg_eq hv
    split at h
    · rename_i x px e1 e2 pl hx hl
      obtain rfl := vName_eq hx
      obtain rfl := vLst_eq hl
      obtain ⟨h1, h⟩ := and2 h
      obtain ⟨h2, h3⟩ := and2 h
      obtain ⟨k1, k2, k3⟩ := loc_in c.hN c.hsc c.hfn h1
      exact ps_setMD c.nd k1 k2 (pe_lstF (pa_consD (is_inW c hn (by decide) (by decide) h2) (pa_consD (is_inW c hn (by decide) (by decide) h3) pa_nilD (star_ok (isE_star h3))) (star_ok (isE_star h2))) two_len) (swaps_ok rfl) k3
    · cases h
  · cases h
theorem ps_w2 (c : CtxW g G X S a oe D0 bs) (hn : S.slot 0 n = true) (h : wkB2 g S n st = true) : PS X st (tS G W Fc B (w2F bs)) := by
  unfold wkB2 at h
  split at h
  · rename_i t v p hv
    obtain rfl := vAsg_eq hv
    split at h
    · rename_i x px u w pb hx hb
      obtain rfl := vName_eq hx
      obtain rfl := vBin_eq hb
      split at h
      · rename_i e1 e2 pl hl
        obtain rfl := vLst_eq hl
        obtain ⟨h1, h⟩ := and2 h
        obtain ⟨h0, h⟩ := and2 h
        obtain ⟨h2, h3⟩ := and2 h
        obtain ⟨k1, k2, k3⟩ := loc_in c.hN c.hsc c.hfn h1
        unfold isKB at h0
        cases hu : vName u with
        | none => rw [hu] at h0; cases h0
        | some z =>
          obtain ⟨y, py⟩ := z
          rw [hu] at h0
          obtain rfl := vName_eq hu
          obtain ⟨s1, s2, s3, s4⟩ := slotW c.hN c.hsc h0
          exact ps_setMD c.nd k1 k2 (pe_addF (pe_slotD s1 s2 s3 s4) (pe_lstD (pa_consD (is_inW c hn (by decide) (by decide) h2) (pa_consD (is_inW c hn (by decide) (by decide) h3) pa_nilD (star_ok (isE_star h3))) (star_ok (isE_star h2))) two_len)) (swaps_ok rfl) k3
      · cases h
    · cases h
  · cases h
theorem ps_w3 (c : CtxW g G X S a oe D0 bs) (hn : S.slot 0 n = true) (h : wkB3 g S n st = true) : PS X st (tS G W Fc B (w3F bs)) := by
  unfold wkB3 at h
  split at h
  · rename_i z p hv
    obtain rfl := vExp_eq hv
    split at h
    · rename_i o m ap a' cp hz
      obtain rfl := vMe_eq hz
      split at h
      · rename_i x px hx
        obtain rfl := vName_eq hx
        obtain ⟨h1, h⟩ := and2 h
        obtain ⟨h2, h⟩ := and2 h
        obtain ⟨h3, h4⟩ := and2 h
        obtain rfl := eq_of_beq h1
        obtain ⟨k1, k2, k3, k4⟩ := slotW c.hN c.hsc h3
        exact ps_appD k1 k2 k3 k4 (is_inW c hn (by decide) (by decide) h4) (star_ok (isE_star h4)) h2
      · cases h
    · cases h
  · cases h
theorem pe_wm (c : CtxW g G X S a oe D0 bs) {m : Str} {me : Me} {id : String} (h : wkM S m e = true) (hm1 : ∀ d, meK me d = isLstD d) (slot : Slot "list" m id) (ty : typeOf (.builtin id) = pure (.type "method_descriptor")) (rule : MtR X id (rmD G W me)) : PE X e (tE G W (wmF me)) := by
  unfold wkM at h
  split at h
  · rename_i o m' ap t cp hz
    obtain rfl := vMe_eq hz
    obtain ⟨h1, h⟩ := and2 h
    obtain ⟨h2, h⟩ := and2 h
    obtain ⟨h3, h4⟩ := and2 h
    obtain rfl := eq_of_beq h1
    unfold isKB at h3
    cases hu : vName o with
    | none => rw [hu] at h3; cases h3
    | some z =>
      obtain ⟨y, py⟩ := z
      rw [hu] at h3
      obtain rfl := vName_eq hu
      obtain ⟨s1, s2, s3, s4⟩ := slotW c.hN c.hsc h3
      unfold isTB at h4
      cases ht : vConst t with
      | none => rw [ht] at h4; cases h4
      | some z =>
        obtain ⟨k, kk, pk⟩ := z
        rw [ht] at h4
        obtain rfl := vConst_eq ht
        exact pe_meLD c.hK hm1 slot ty rule (pe_slotD s1 s2 s3 s4) (pe_litD h4) (star_ok rfl) (base_ok rfl) h2 (few1 (star_ok rfl))
  · cases h
theorem pe_isS {s : List Nat} (h : isSB s e = true) : PE X e (tE G W fun _ => .ok (.str s)) ∧ notStar e = true := by
  unfold isSB at h
  split at h
  · rename_i k kk pk hk
    obtain rfl := vConst_eq hk
    exact ⟨pe_litD h, rfl⟩
  · cases h
theorem ps_w4 (c : CtxW g G X S a oe D0 bs) (hn : S.slot 0 n = true) (h : wkB4 g S n st = true) : PS X st (tS G W Fc B w4F) := by
  unfold wkB4 at h
  split at h
  · rename_i cc r p hv
    obtain rfl := vIfS_eq hv
    split at h
    · rename_i u v pb hb
      obtain rfl := vBool_eq hb
      split at h
      · rename_i m one pc q pu hc hu
        obtain rfl := vCmp_eq hc
        obtain rfl := vUn_eq hu
        obtain ⟨h1, h⟩ := and2 h
        obtain ⟨h2, h⟩ := and2 h
        obtain ⟨h3, h4⟩ := and2 h
        cases ho : vConst one with
        | none => rw [ho] at h2; cases h2
        | some z =>
          obtain ⟨k, kk, pk⟩ := z
          rw [ho] at h2
          obtain rfl := vConst_eq ho
          cases hr : vRet r with
          | none => rw [hr] at h4; cases h4
          | some z =>
            obtain ⟨w, pr⟩ := z
            rw [hr] at h4
            obtain rfl := vRet_eq hr
            have q1 : PE X m (tE G W (wmF .countL)) := pe_wm c h1 (fun _ => rfl) PySem.F.slot_list_count PySem.F.type_list_count (mt_cntLD c.un c.hK)
            have q2 := pt_cmpD (pos := pc) .ne c.un c.hK q1 (pe_litD (X := X) (G := G) (W := W) (p := pk) (k := kk) h2) (marks_ok rfl)
            have q3 : PE X q (tE G W (isF true)) := is_inV c hn h3
            have hvq : valE q = true := by
              unfold isVB at h3
              split at h3
              · rename_i w1; obtain rfl := vIsE_eq w1; rfl
              · cases h3
            have q4 := pt_notD (pos := pu) (pt_tru c.hK q3 (val_ok hvq))
            exact ps_ifD (pw_orD q2 (pw_or1 q4)).pt (pss_consD (ps_retD (pe_isS h4).1) pss_nilD) pss_nilD
      · cases h
    · cases h
  · cases h
theorem ps_w5 (c : CtxW g G X S a oe D0 bs) (h : wkB5 S st = true) : PS X st (tS G W Fc B w5F) := by
  unfold wkB5 at h
  split at h
  · rename_i v p hv
    obtain rfl := vRet_eq hv
    split at h
    · rename_i t i ps hs
      obtain rfl := vSub_eq hs
      split at h
      · rename_i e1 e2 e3 e4 e5 kt pt ht
        obtain rfl := vTup_eq ht
        obtain ⟨h1, h⟩ := and2 h
        obtain ⟨h2, h⟩ := and2 h
        obtain ⟨h3, h⟩ := and2 h
        obtain ⟨h4, h⟩ := and2 h
        obtain ⟨h5, h⟩ := and2 h
        have q1 : PE X i (tE G W (wmF .indexL)) := pe_wm c h (fun _ => rfl) PySem.F.slot_list_index PySem.F.type_list_index (mt_idxLD c.un c.hK)
        have hp : plainE i = true := by
          unfold wkM at h
          split at h
          · rename_i hz; obtain rfl := vMe_eq hz; rfl
          · cases h
        have z1 := pe_isS (X := X) (G := G) (W := W) h1
        have z2 := pe_isS (X := X) (G := G) (W := W) h2
        have z3 := pe_isS (X := X) (G := G) (W := W) h3
        have z4 := pe_isS (X := X) (G := G) (W := W) h4
        have z5 := pe_isS (X := X) (G := G) (W := W) h5
        exact ps_retD (pe_ixD c.hK (pe_tupD (pa_consD z1.1 (pa_consD z2.1 (pa_consD z3.1 (pa_consD z4.1 (pa_consD z5.1 pa_nilD (star_ok z5.2)) (star_ok z4.2)) (star_ok z3.2)) (star_ok z2.2)) (star_ok z1.2)) (fun ρ ds h => by
          cases h; decide)) q1 (plain_ok hp))
      · cases h
    · cases h
  · cases h
def wkF (b : Nat → Bool) (ρ : En) : Fl := (w1F b ρ).nxt fun ρ => (w2F b ρ).nxt fun ρ => (w3F b ρ).nxt fun ρ => (w4F ρ).nxt fun ρ => (w5F ρ).nxt fun ρ => .nx ρ
theorem pss_wk {sts : List Stmt} (c : CtxW g G X S a oe D0 bs) (h : wkB g S sts = true) : PSs X sts (tS G W Fc B (wkF bs)) := by
  unfold wkB at h
  split at h
  · rename_i n _ s1 s2 s3 s4 s5 _
    obtain ⟨hn, h⟩ := and2 h
    obtain ⟨h1, h⟩ := and2 h
    obtain ⟨h2, h⟩ := and2 h
    obtain ⟨h3, h⟩ := and2 h
    obtain ⟨h4, h5⟩ := and2 h
    exact pss_consD (ps_w1 c hn h1) (pss_consD (ps_w2 c hn h2) (pss_consD (ps_w3 c hn h3) (pss_consD (ps_w4 c hn h4) (pss_consD (ps_w5 c h5) pss_nilD))))
  · cases h
end
def wrdS (b1 b2 b3 b4 b5 : Bool) : List Nat := if [b1, b2, b3, b4, b5].countP (fun b => b) = 1 then wNames.getD ([b1, b2, b3, b4, b5].findIdx fun b => b) [] else wTell
theorem wkF_ok (b : Nat → Bool) : wkF b [some (.im (.fn 4096)), none] = .rt (.str (wrdS (b 1) (b 2) (b 3) (b 4) (b 5))) := by
  unfold wkF w1F w2F w3F
  generalize b 1 = b1
  generalize b 2 = b2
  generalize b 3 = b3
  generalize b 4 = b4
  generalize b 5 = b5
  cases b1 <;> cases b2 <;> cases b3 <;> cases b4 <;> cases b5 <;> rfl
theorem word_ok (m : Nat) : SOk (wordF m) := by
  have : ∀ m : Fin 6, (wordF m.val).length ≤ sizeLine ∧ ∀ k ∈ wordF m.val, k < 1114112 := by rw [sizeLine_eq]; decide
  by_cases h : m < 6
  · exact ⟨(this ⟨m, h⟩).1, (this ⟨m, h⟩).2⟩
  · have e : wordF m = wordF 0 := by
      unfold wordF
      split <;> first | omega | rfl
    rw [e]
    exact ⟨(this 0).1, (this 0).2⟩
def wOkB (sub : Nat → Nat → Option Bool) (n : Nat) : Bool := (List.range n).all fun m => match sub m 1, sub m 2, sub m 3, sub m 4, sub m 5 with
  | some a, some b, some c, some d, some e => wrdS a b c d e == wordF m
  | _, _, _, _, _ => false
theorem wOk_in {sub : Nat → Nat → Option Bool} {n m : Nat} (h : wOkB sub n = true) (hm : m < n) : ∃ bs : Nat → Bool, (∀ j, 1 ≤ j → j ≤ 5 → sub m j = some (bs j)) ∧ wrdS (bs 1) (bs 2) (bs 3) (bs 4) (bs 5) = wordF m := by
  have z := List.all_eq_true.mp h m (List.mem_range.mpr hm)
  split at z
  · rename_i a b c d e h1 h2 h3 h4 h5
    refine ⟨fun j => match j with | 1 => a | 2 => b | 3 => c | 4 => d | _ => e, fun j j1 j5 => ?_, eq_of_beq z⟩
    rcases (by omega : j = 1 ∨ j = 2 ∨ j = 3 ∨ j = 4 ∨ j = 5) with rfl | rfl | rfl | rfl | rfl
    · exact h1
    · exact h2
    · exact h3
    · exact h4
    · exact h5
  · cases z
end Dk

/-! DkG: the defs keep their promises, level by level; the law's end. -/
namespace Dk
open PySem PySem.Spec PyProof.Rows L2
/-! ### constants -/
mutual
def dB (K : PySem.W.Frag) (fa : Nat → Option Addr) : Value → D → Bool
  | .none, .non => true
  | .bool a, .bl b => a == b
  | .int a _, .int b => decide (a = b)
  | .str x _, .str s => x.cps.toList == s && decide (s.length ≤ lim) && s.all fun c => decide (c < 1114112)
  | .ref a, .fn k => decide (fa k = some a)
  | .ref a, .tup ds => (match K.lookup a with | some ⟨.type c, _, .seq its _, _⟩ => decide (c = "tuple") && decide (ds.length ≤ lim) && dBs K fa its.toList ds | _ => false)
  | _, _ => false
def dBs (K : PySem.W.Frag) (fa : Nat → Option Addr) : List Value → List D → Bool
  | [], [] => true
  | u :: us, d :: ds => dB K fa u d && dBs K fa us ds
  | _, _ => false
end
section
variable {K : PySem.W.Frag} {fa : Nat → Option Addr}
theorem dB_str {x : Str} {s : List Nat} (h : (x.cps.toList == s && decide (s.length ≤ lim) && s.all fun c => decide (c < 1114112)) = true) : x = sV s ∧ SOk s := by
  rw [Bool.and_eq_true, Bool.and_eq_true, beq_iff_eq, decide_eq_true_eq, List.all_eq_true] at h
  obtain ⟨⟨h1, h2⟩, h3⟩ := h
  rw [lim_eq] at h2
  subst h1
  exact ⟨(sV_of x).symm, h2, fun c hc => of_decide_eq_true (h3 c hc)⟩
mutual
theorem dB_ok : ∀ (d : D) (u : Value), dB K fa u d = true → ∃ v, RelV v u ∧ ∀ (G : Ge) (H : Hp), G.K = K → G.fa = fa → Rep G H v d
  | .non, u, h => by
    cases u <;> first | (unfold dB at h; cases h; done) | skip
    exact ⟨.non, rfl, fun _ _ _ _ => .non⟩
  | .bl b, u, h => by
    cases u <;> first | (unfold dB at h; cases h; done) | skip
    unfold dB at h
    have e := eq_of_beq h
    subst e
    exact ⟨.bl _, rfl, fun _ _ _ _ => .bl _⟩
  | .int i, u, h => by
    cases u <;> first | (unfold dB at h; cases h; done) | skip
    unfold dB at h
    have e := of_decide_eq_true h
    subst e
    exact ⟨.int _, ⟨_, rfl⟩, fun _ _ _ _ => .int _⟩
  | .str s, u, h => by
    cases u <;> first | (unfold dB at h; cases h; done) | skip
    unfold dB at h
    obtain ⟨e, q⟩ := dB_str h
    subst e
    exact ⟨.str _, ⟨_, rfl⟩, fun _ _ _ _ => .str s q⟩
  | .fn k, u, h => by
    cases u <;> first | (unfold dB at h; cases h; done) | skip
    unfold dB at h
    rename_i a
    have e := of_decide_eq_true h
    exact ⟨.ref a, rfl, fun G H _ e2 => .fn (by rw [e2]; exact e)⟩
  | .tup ds, u, h => by
    cases u <;> first | (unfold dB at h; cases h; done) | skip
    unfold dB at h
    rename_i a
    split at h
    · rename_i c od its n sl hl
      rw [Bool.and_eq_true, Bool.and_eq_true, decide_eq_true_eq, decide_eq_true_eq] at h
      obtain ⟨⟨h1, h2⟩, h3⟩ := h
      subst h1
      obtain ⟨vs, r, k⟩ := dBs_ok ds its.toList h3
      rw [lim_eq] at h2
      refine ⟨.ref a, rfl, fun G H e1 e2 => ?_⟩
      have q := k G H e1 e2
      have l := q.len
      have l2 := r.length
      exact .tup (.inr ⟨_, its, n, by rw [e1]; exact hl, rfl, rfl, by have l3 : its.toList.length = its.size := Array.length_toList; omega, r⟩) (by omega) q
    · cases h
  | .lst _, u, h => by cases u <;> (unfold dB at h; cases h)
  | .frz _, u, h => by cases u <;> (unfold dB at h; cases h)
theorem dBs_ok : ∀ (ds : List D) (us : List Value), dBs K fa us ds = true → ∃ vs, Vals vs us ∧ ∀ (G : Ge) (H : Hp), G.K = K → G.fa = fa → RepL G H vs ds
  | [], [], h => ⟨[], .nil, fun _ _ _ _ => .nil⟩
  | [], _ :: _, h => by unfold dBs at h; cases h
  | _ :: _, [], h => by unfold dBs at h; cases h
  | d :: ds, u :: us, h => by
    unfold dBs at h
    rw [Bool.and_eq_true] at h
    obtain ⟨v, r1, k1⟩ := dB_ok d u h.1
    obtain ⟨vs, r2, k2⟩ := dBs_ok ds us h.2
    exact ⟨v :: vs, .cons r1 r2, fun G H e1 e2 => .cons (k1 G H e1 e2) (k2 G H e1 e2)⟩
end
end
def fnA (fn : List He.DefD) (K : PySem.W.Frag) (k : Nat) : Option Addr := (fn[k]?).map fun d => He.fAd K d.at_
def cnB (fn : List He.DefD) (cn : List (Str × D)) (K : PySem.W.Frag) : Bool := cn.all fun c => match PySem.W.nsIn K mainGlobals c.1 with
  | some (some u) => dB K (fnA fn K) u c.2
  | _ => false
theorem cnB_ok {fn : List He.DefD} {cn : List (Str × D)} {K : PySem.W.Frag} {h : Heap} {mg : Str → Option Value} (X : K.In h) (N : h.Ns mainGlobals mg) (c : cnB fn cn K = true) {x : Str} {d : D} (hm : (x, d) ∈ cn) :
    ∃ u v, mg x = some u ∧ RelV v u ∧ ∀ (G : Ge) (H : Hp), G.K = K → G.fa = fnA fn K → Rep G H v d := by
  have z := List.all_eq_true.mp c (x, d) hm
  dsimp only at z
  split at z
  · rename_i u e
    obtain ⟨v, r, k⟩ := dB_ok d u z
    exact ⟨u, v, PySem.W.mg_of X N e, r, k⟩
  · cases z
/-- what isinstance asks of own classes of errors -/
def excCB (K : PySem.W.Frag) (D : Addr) : Bool := decide (PySem.W.findIn K (.ref D) "__getattribute__" = some (some (.builtin "BaseException.__getattribute__"))) && (decide (PySem.W.findIn K (.ref D) "__getattr__" = some none) && (decide (PySem.W.subIn K (.ref D) (.type "BaseException") = some true) && (PySem.W.hasDictIn K D && (decide (PySem.W.findIn K (.ref D) "__class__" = some (some (.builtin "object.__class__"))) && (decide (PySem.W.specialIn K (.builtin "object.__class__") "__get__" = some (some (.builtin "getset_descriptor.__get__"))) && (decide (PySem.W.takesIn K (.builtin "object.__class__") = some true) && decide (PySem.W.mroIn K D (.type "object") = some true)))))))
theorem excCB_ok {K : PySem.W.Frag} {D : Addr} (h : excCB K D = true) : ExcC K D := by
  unfold excCB at h
  simp only [Bool.and_eq_true, decide_eq_true_eq] at h
  obtain ⟨h1, h2, h3, h4, h5, h6, h7, h8⟩ := h
  exact ⟨h1, h2, h3, h4, h5, h6, h7, h8⟩
def exB (es : List (Str × List Bool)) (K : PySem.W.Frag) : Bool := es.all fun e => excCB K (He.ga K e.1) && (decide (PySem.W.kitOne K (.ref (He.ga K e.1)) (.type "ValueError") = some true) && (List.zip (es.map (·.1)) e.2).all fun z => decide (PySem.W.kitOne K (.ref (He.ga K e.1)) (.ref (He.ga K z.1)) = some z.2))
/-- a constant tuple bears no dict -/
def tupB (K : PySem.W.Frag) : Value → D → Bool
  | .ref a, .tup _ => (match K.lookup a with | some ⟨.type c, none, _, _⟩ => decide (c = "tuple") | _ => false)
  | _, .tup _ => false
  | _, _ => true
def ctB (cn : List (Str × D)) (K : PySem.W.Frag) : Bool := cn.all fun c => match PySem.W.nsIn K mainGlobals c.1 with
  | some (some u) => tupB K u c.2
  | _ => false
theorem ctB_ok {cn : List (Str × D)} {K : PySem.W.Frag} {h : Heap} {mg : Str → Option Value} (X : K.In h) (N : h.Ns mainGlobals mg) (c : ctB cn K = true) {x : Str} {ds : List D} (hm : (x, D.tup ds) ∈ cn) :
    ∃ a o, mg x = some (.ref a) ∧ K.lookup a = some o ∧ o.cls = .type "tuple" ∧ o.dict = none := by
  have z := List.all_eq_true.mp c (x, .tup ds) hm
  dsimp only at z
  split at z
  · rename_i u e
    unfold tupB at z
    split at z
    · rename_i a xs _
      split at z
      · rename_i cc _ _ hl
        have hc := of_decide_eq_true z
        exact ⟨a, _, PySem.W.mg_of X N e, hl, by rw [hc], rfl⟩
      · cases z
    · cases z
    · rename_i h1 h2
      exact (h1 ds rfl).elim
  · cases z
/-! ### the Hook -/
def hookC (n : Nat) (fa : List He.Fa) (fn : List He.DefD) (cn : List (Str × D)) (es : List (Str × List Bool)) : PySem.W.Hook where
  α := He.AlD × Bool
  obs := fun s => (He.obsDG n fa fn s.heap.get?, cnB fn cn (He.frG s.heap.get? (He.asD s.heap.get? n)) && (exB es (He.frG s.heap.get? (He.asD s.heap.get? n)) && ctB cn (He.frG s.heap.get? (He.asD s.heap.get? n))))
  val := fun _ => (He.valD fn, true)
  says := fun _ h => ∃ K : PySem.W.Frag, K.In h ∧ He.SaysD fa fn K ∧ (cnB fn cn K && (exB es K && ctB cn K)) = true
  of := fun _ _ e => ⟨_, He.frG_in, congrArg Prod.fst e, congrArg Prod.snd e⟩
  keeps := fun _ _ _ ⟨K, hK, c⟩ k => ⟨K, PySem.W.Frag.In.keeps hK k, c⟩
def obC (n : Nat) (fa : List He.Fa) (fn : List He.DefD) (cn : List (Str × D)) (es : List (Str × List Bool)) (s : PySem.W.SharedT) : He.AlD × Bool := (He.obsDG n fa fn (HandSHeadRun.getT s), cnB fn cn (He.frG (HandSHeadRun.getT s) (He.asD (HandSHeadRun.getT s) n)) && (exB es (He.frG (HandSHeadRun.getT s) (He.asD (HandSHeadRun.getT s) n)) && ctB cn (He.frG (HandSHeadRun.getT s) (He.asD (HandSHeadRun.getT s) n))))
theorem obC_eq {n : Nat} {fa : List He.Fa} {fn : List He.DefD} {cn : List (Str × D)} {es : List (Str × List Bool)} (s : PySem.W.SharedT) : obC n fa fn cn es s = (hookC n fa fn cn es).obs s.abs := by
  have e : HandSHeadRun.getT s = s.abs.heap.get? := funext fun a => HandSHeadRun.getT_eq s a
  unfold obC
  rw [e]
  rfl
/-! ### defs -/
structure DefT (g : Gt) (d : He.DefD) (F : Fn) (N ps : List Str) : Prop where
  bind : ∀ (kV doc pm : Value) (an : Option Addr) (cdv ct : Value) (us : List Value), us.length = ps.length → bindArgs (PySem.W.fnOf d.name d.qual d.params d.body d.scope .none kV doc pm an cdv ct) ⟨us, []⟩ = pure (ps.zip us)
  sc : FnScope N ps d.scope
  np : F.np = ps.length
  ns : F.ns = N.length
  chk : chkTop g ⟨N, d.scope, fun _ => true⟩ F.body d.body = true
  dfl : d.dfl = []
  kwd : d.kwd = []
theorem DefT.plain {g : Gt} {d : He.DefD} {F : Fn} {N ps : List Str} {K : PySem.W.Frag} {f : Addr} {fd : FuncData} (t : DefT g d F N ps) (FD : FunD K d.name d.qual d.params d.body d.scope (d.dvs K) (d.kws K) f fd) : FunD K d.name d.qual d.params d.body d.scope [] [] f fd := by
  have e1 : d.dvs K = [] := by unfold He.DefD.dvs; rw [t.dfl]; rfl
  have e2 : d.kws K = [] := by unfold He.DefD.kws; rw [t.kwd]; rfl
  rw [e1, e2] at FD
  exact FD
structure Law (fn : List He.DefD) (T : Tab) (g : Gt) : Prop where
  len : fn.length = T.fns.length
  gl : g.fns.length = T.fns.length
  hw : T.word = wordF
  ww : ∀ k, T.isW k = true → wOkB T.sub g.errs.length = true
  defs : ∀ (k : Nat) (d : He.DefD) (F : Fn), fn[k]? = some d → T.fns[k]? = some F → ∃ N ps, DefT g d F N ps
theorem callF_len {C : Cal} {F : Fn} {ds : List D} : callF C F ds = .bad ∨ ds.length = F.np := by
  by_cases h : ds.length = F.np
  · exact .inr h
  · left; unfold callF; rw [if_neg h]
theorem lakR_len {C : Cal} {F : Fn} {ds : List D} : lakR C F ds = .bad ∨ ds.length = F.np := by
  unfold lakR
  split
  · split
    · rename_i hz; exact .inr hz.1.symm
    · exact .inl rfl
  · exact .inl rfl
theorem lakR_noM {C : Cal} {F : Fn} {ds : List D} : noM (lakR C F ds) := by
  unfold lakR
  split
  · split
    · split <;> trivial
    · trivial
  · trivial
theorem lak_body {ms : Sms} {z : Nat × Nat} (h : lakOf ms = some z) : ∃ ss, ms = .cons .wrd (.cons (.exp (.call z.1 (.cons (.glob z.2) .nil))) ss) := by
  unfold lakOf at h
  split at h
  · cases h; exact ⟨_, rfl⟩
  · cases h
theorem lak_isW {ms : Sms} {z : Nat × Nat} (h : lakOf ms = some z) : ms.isW = false := by
  obtain ⟨ss, e⟩ := lak_body h
  rw [e]; rfl
theorem callF_lak {C : Cal} {F : Fn} {ds : List D} {z : Nat × Nat} (h : lakOf F.body = some z) : callF C F ds = .bad := by
  obtain ⟨ss, e⟩ := lak_body h
  unfold callF
  rw [e]
  split <;> rfl
theorem callF_noM {C : Cal} {F : Fn} {ds : List D} : noM (callF C F ds) := by
  unfold callF
  split
  · split <;> trivial
  · trivial
/-- the facts behind the top, of a heap and its names -/
structure Facts (g : Gt) (fn : List He.DefD) (T : Tab) (K : PySem.W.Frag) (mg : Str → Option Value) (ea : Nat → Addr) : Prop where
  bi : ∀ x ∈ bltS, mg x = none
  fns : ∀ (k : Nat) (x : Str), g.fns[k]? = some x → ∃ fa, fnA fn K k = some fa ∧ mg x = some (.ref fa)
  cn : ∀ (k : Nat) (x : Str), g.consts[k]? = some x → ∃ d v u, T.consts[k]? = some d ∧ mg x = some u ∧ RelV v u ∧ ∀ (G : Ge) (H : Hp), G.K = K → G.fa = fnA fn K → Rep G H v d
  def_ : ∀ (k : Nat) (d : He.DefD), fn[k]? = some d → ∃ fd, FunD K d.name d.qual d.params d.body d.scope (d.dvs K) (d.kws K) (He.fAd K d.at_) fd
  er : ∀ (k : Nat) (x : Str), g.errs[k]? = some x → mg x = some (.ref (ea k)) ∧ PySem.W.excIn K (ea k) He.veBase "ValueError.__new__" = true ∧ PySem.W.keepIn K (.ref (ea k)) = true ∧ PySem.W.subIn K (.ref (ea k)) (.type "BaseException") = some true ∧ PySem.W.typeIn K (.ref (ea k)) = some (.type "type")
  sb : ∀ (k l : Nat) (b : Bool), T.sub k l = some b → PySem.W.exmOne K (.ref (ea k)) (.ref (ea l)) = some b
  sx : XFacts g ea T.sub K
  ct : ∀ (k : Nat) (x : Str) (ds : List D), g.consts[k]? = some x → T.consts[k]? = some (.tup ds) → ∃ a o, mg x = some (.ref a) ∧ K.lookup a = some o ∧ o.cls = .type "tuple" ∧ o.dict = none
section
variable {g : Gt} {fn : List He.DefD} {T : Tab} {P : Program} {w : World} {K : PySem.W.Frag} {mg : Str → Option Value} {base : Heap} {ea : Nat → Addr} {h0 : Heap}
abbrev geOf (P : Program) (w : World) (K : PySem.W.Frag) (mg : Str → Option Value) (h0 : Heap) (fn : List He.DefD) (ea : Nat → Addr) : Ge := ⟨P, w, K, mg, h0, fnA fn K, ea⟩
theorem start_env {G : Ge} {F : Addr → Prop} {H : Hp} {N : List Str} {vs : List V} {ds : List D} (r : RepL G (sol H F) vs ds) (dom : ∀ a, F a → ∃ o, H a = some o) {np ns : Nat} (h1 : ds.length = np) (h2 : ns = N.length) :
    StE G F H F (ds.map (fun d => some (.im d)) ++ List.replicate (ns - np) none) (start N vs) H := by
  have nomu : ∀ {i : Nat} {s : Sl}, (ds.map (fun d => some (Sl.im d)) ++ List.replicate (ns - np) none)[i]? = some (some s) → ∃ d, s = .im d ∧ ds[i]? = some d := fun {i s} h => by
    by_cases hi : i < ds.length
    · rw [List.getElem?_append_left (by rw [List.length_map]; exact hi), List.getElem?_map, List.getElem?_eq_getElem hi] at h
      simp only [Option.map_some, Option.some.injEq] at h
      exact ⟨ds[i], h.symm, List.getElem?_eq_getElem hi⟩
    · rw [List.getElem?_append_right (by rw [List.length_map]; omega), List.getElem?_replicate] at h
      split at h <;> cases h
  refine ⟨⟨fun i s h => ?_, dom, ?_⟩, fun a f => f, fun a f => .inl f, dom, Same.refl H, fun i xs a h _ => ?_, fun i j xs ys a h _ _ _ => ?_⟩
  · obtain ⟨d, rfl, h2⟩ := nomu h
    obtain ⟨v, h3, h4⟩ := r.get h2
    refine ⟨v, ?_, h4⟩
    unfold L2.start
    have hi : i < vs.length := by
      by_cases hi : i < vs.length
      · exact hi
      · rw [List.getElem?_eq_none (by omega)] at h3; cases h3
    rw [List.getElem?_append_left (by rw [List.length_map]; exact hi), List.getElem?_map, h3]
    rfl
  · unfold L2.start
    rw [List.length_append, List.length_append, List.length_map, List.length_map, List.length_replicate, List.length_replicate, r.len, h1, h2]
  · obtain ⟨d, e, _⟩ := nomu h; cases e
  · obtain ⟨d, e, _⟩ := nomu h; cases e
/-- the def that tells a word of the error that is handled -/
theorem fnw_of {D0 f : Addr} {fd : FuncData} {x qual n : Str} {params : Arguments} {body : List Stmt} {scope : Scope} {dvs : List V} {kws : List (Str × V)} {N : List Str} {bs : Nat → Bool} (FD : FunD K x qual params body scope dvs kws f fd) (S : FnScope N [n] scope) (hN : N.length = 2) (ck : wkB g ⟨N, scope, fun _ => true⟩ body = true)
    (hI : mg "isinstance" = none) (hV : mg "ValueError" = none) (er : ∀ j x, g.errs[j]? = some x → mg x = some (.ref (ea j))) (ec : ExcC K D0) (ki : ∀ j, 1 ≤ j → j ≤ 5 → PySem.W.kitOne K (.ref D0) (.ref (ea j)) = some (bs j)) (kv : PySem.W.kitOne K (.ref D0) (.type "ValueError") = some true) :
    FnW P w K mg base D0 (wrdS (bs 1) (bs 2) (bs 3) (bs 4) (bs 5)) f fd n := by
  refine ⟨fun A outer s H args a oe Q hd hu hpin e0 hb hz hf k => ?_⟩
  obtain ⟨oc, od, dV, kV, doc, pm, an, cdv, ct, osl, rfl, lk, hcd, _, _⟩ := FD.ex
  have KX : K.In s.heap := e0.mod.kin.keeps fun b o e => (e0.bs b o e).1
  have lim : s.heap.NoLimit := e0.mod.nolimit.keeps fun b o e => (e0.bs b o e).1
  have hkind : ∀ y ∈ ([n].zip [Value.ref a]), scope.names.lookup y.1 = some .local ∨ (scope.names.lookup y.1 = some .cell ∧ ((cellsFrom (s.heap.objs.size + 1) scope.names []).lookup y.1).isSome = true) := fun ⟨n, v⟩ hy => by
    rcases S.par n (List.of_mem_zip hy).1 with q | q
    · exact .inl q
    · exact .inr ⟨q, PySem.W.cellsFrom_some _ _ _ (.inl q)⟩
  refine codeAny_call_function hd (KX _ _ lk) rfl S.co S.gen rfl (PySem.W.codeRec_of KX hcd) (hb _ _ _ _ ?_)
  refine wpAny_newFunctionEnv_cells S.kind hkind fun env he s1 x => ?_
  subst he
  refine ⟨lim.keeps x.toInCall.keep, codeAny_func ?_⟩
  have I : Inv (L2H.cxH (fun _ _ _ _ _ _ => False) P w K mg base N qual scope f cdv A outer s H (fun _ _ _ => False) (a, oe)) [] (L2.start N [.ref a]) H s1 := L2H.inv_startH S hpin e0 rfl (.cons rfl .nil) x
  have body := pss_wk (G := ⟨P, w, K, mg, base, fun k => if k = 4096 then some a else none, ea⟩) (W := fun _ _ _ _ => False) (Fc := fun _ => False) (B := H) (X := L2H.cxH (fun _ _ _ _ _ _ => False) P w K mg base N qual scope f cdv A outer s H (fun _ _ _ => False) (a, oe)) (bs := bs) (D0 := D0) (a := a) (oe := oe)
    ⟨rfl, rfl, rfl, S.nd, rfl, (by show (A.deeper _).units + 65 < cLine; show A.units + 3 + 65 < cLine; omega), hI, hV, er, List.mem_singleton.mpr rfl, hz, hf, ec, ki, kv, (show (if (4096 : Nat) = 4096 then some a else none) = some a from if_pos rfl)⟩ ck
  refine wpAny_mono (body.run [] s1 (L2.start N [.ref a]) H { nx := fun _ H' => Q .non H', rt := Q } I ⟨[some (.im (.fn 4096)), none], ⟨fun _ => False, ?_⟩, ?_⟩) (fun fl s' hs => ?_) fun e s' hs => hs
  · exact start_env (ds := [.fn 4096]) (np := 1) (ns := 2) (.cons (.fn (show (if (4096 : Nat) = 4096 then some a else none) = some a from if_pos rfl)) .nil) (fun _ z => z.elim) rfl hN.symm
  · rw [wkF_ok]
    intro v H' e r
    cases r
    exact k H' e
  · have fin : ∀ {σ' : L2.St} {H' : Hp} {v : V} {u : Value}, Inv (L2H.cxH (fun _ _ _ _ _ _ => False) P w K mg base N qual scope f cdv A outer s H (fun _ _ _ => False) (a, oe)) [] σ' H' s' → RelV v u → Q v H' → CE outer P w H s Q u s' :=
      fun {σ' H' v u} J rv q => ⟨v, H', J.os, J.bare, J.base, J.hok, rv, q⟩
    cases fl with
    | ret u =>
      obtain ⟨v, σ', H', J, rv, q⟩ := hs
      exact fin J rv q
    | next =>
      obtain ⟨σ', H', J, q⟩ := hs
      exact fin (v := V.non) (u := Value.none) J rfl q
    | brk =>
      obtain ⟨_, _, _, q⟩ := hs
      exact False.elim q
    | cont =>
      obtain ⟨_, _, _, q⟩ := hs
      exact False.elim q
theorem isW_body {ms : Sms} (h : ms.isW = true) : ms = .cons .wrd .nil := by
  unfold Sms.isW at h
  split at h
  · rfl
  · cases h
theorem callF_wrd {C : Cal} {F : Fn} {ds : List D} (h : F.body.isW = true) : callF C F ds = .bad := by
  unfold callF
  rw [isW_body h]
  split <;> rfl
/-- the words, of the table -/
theorem wd_of (L : Law fn T g) (Fx : Facts g fn T K mg ea) {C : Nat → List D → R} {A : Around} (h1 : A.depth < recursionLimit) (h2 : A.units + 100 < cLine) : ∀ k x m y s, g.fns[k]? = some x → g.errs[m]? = some y → (calT T C).word k m = some s → ∃ fa fd e, mg x = some (.ref fa) ∧ FnW P w K mg base (ea m) s fa fd e ∧ PySem.W.keepIn K (.ref fa) = true ∧ Binds K fd [e] [] ∧ A.depth < recursionLimit ∧ A.units + 100 < cLine := fun k x m y s hx hy hs => by
  replace hs : (if T.isW k = true then some (T.word m) else none) = some s := hs
  by_cases hw : T.isW k = true
  · rw [if_pos hw] at hs
    obtain rfl := Option.some.inj hs
    have hw2 := hw
    unfold Tab.isW at hw2
    split at hw2
    · rename_i F hF
      obtain ⟨b1, b2⟩ := and2 hw2
      have b2 := eq_of_beq b2
      have hlt : k < T.fns.length := by
        by_cases hlt : k < T.fns.length
        · exact hlt
        · rw [List.getElem?_eq_none (by omega)] at hF; cases hF
      have hd : fn[k]? = some (fn[k]'(by rw [L.len]; exact hlt)) := List.getElem?_eq_getElem _
      generalize fn[k]'(by rw [L.len]; exact hlt) = d at hd
      obtain ⟨N, ps, t⟩ := L.defs k d F hd hF
      obtain ⟨fd, FD⟩ := Fx.def_ k d hd
      have ck := t.chk
      unfold chkTop at ck
      rw [if_pos b1] at ck
      obtain ⟨n, n2, hN⟩ : ∃ n n2, N = [n, n2] := by
        unfold wkB at ck
        split at ck
        · rename_i n n2 _ _ _ _ _ hN _
          exact ⟨n, n2, hN⟩
        · cases ck
      have hps : ps = [n] := by
        have p1 := t.sc.pre
        have p2 := t.np
        rw [b2] at p2
        rw [← p2, hN] at p1
        exact p1.symm
      subst hps
      have hm : m < g.errs.length := by
        by_cases hlt : m < g.errs.length
        · exact hlt
        · rw [List.getElem?_eq_none (by omega)] at hy; cases hy
      obtain ⟨bs, w1, w2⟩ := wOk_in (L.ww k hw) hm
      obtain ⟨fa, f1, f2⟩ := Fx.fns k x hx
      have e1 : He.fAd K d.at_ = fa := by
        unfold fnA at f1
        rw [hd] at f1
        exact Option.some.inj f1
      subst e1
      refine ⟨_, fd, n, f2, ?_, FD.kp, (t.plain FD).bindsN t.bind, h1, h2⟩
      rw [L.hw, ← w2]
      exact fnw_of (t.plain FD) t.sc (by rw [hN]; rfl) ck (Fx.bi _ (by simp [bltS])) (Fx.bi _ (by simp [bltS])) (fun j z hz => (Fx.er j z hz).1) (Fx.sx.ec m y hy) (fun j j1 j5 => (Fx.sx.ki m j _ (w1 j j1 j5)).choose_spec.2) (Fx.sx.kv m y hy)
    · cases hw2
  · rw [if_neg hw] at hs; cases hs
theorem wk_of (L : Law fn T g) {C : Nat → List D → R} : ∀ k m s, (calT T C).word k m = some s → SOk s := fun k m s hs => by
  replace hs : (if T.isW k = true then some (T.word m) else none) = some s := hs
  by_cases hw : T.isW k = true
  · rw [if_pos hw] at hs
    obtain rfl := Option.some.inj hs
    rw [L.hw]
    exact word_ok m
  · rw [if_neg hw] at hs; cases hs
/-- a def's context: its callees keep their promises, n calls deep -/
theorem ctx_of (L : Law fn T g) (Fx : Facts g fn T K mg ea) (n : Nat)
    (I1 : ∀ (k : Nat) (d : He.DefD) (F : Fn), fn[k]? = some d → T.fns[k]? = some F → ∀ (fd : FuncData), FunD K d.name d.qual d.params d.body d.scope (d.dvs K) (d.kws K) (He.fAd K d.at_) fd → ∀ (N ps : List Str), DefT g d F N ps → FnOk P w K mg base (L2.CX P w) n (He.fAd K d.at_) fd ps (spD (geOf P w K mg h0 fn ea) F.np (run T n k)))
    (I2 : ∀ (k : Nat) (d : He.DefD) (F : Fn), fn[k]? = some d → T.fns[k]? = some F → ∀ (fd : FuncData), FunD K d.name d.qual d.params d.body d.scope (d.dvs K) (d.kws K) (He.fAd K d.at_) fd → ∀ (N ps : List Str), DefT g d F N ps → FnT P w K mg base n (He.fAd K d.at_) fd ps (spD (geOf P w K mg h0 fn ea) F.np (run T n (g.fns.length + k))))
    {d : He.DefD} {F : Fn} {N ps : List Str} {f : Addr} {cdv : Value} {A : Around} {outer : List Env} {s : Shared} {H : Hp} {E : XK} (t : DefT g d F N ps) (hr : Room n (A.deeper (envOfC d.qual d.scope s.heap.objs.size f cdv))) :
    CtxS g (geOf P w K mg h0 fn ea) (calT T (run T n)) (fun cls dd _ H' => E cls dd H') (cxOf (L2.CX P w) P w K mg base N d.qual d.scope f cdv A outer s H E) ⟨N, d.scope, fun _ => true⟩ := by
  refine ⟨⟨rfl, rfl, rfl, t.sc.nd, rfl, rfl, takes_of rfl rfl rfl rfl, ?_, Fx.bi, fun k x hx => ?_, Fx.fns, fun k' fa' hfa => ?_, fun k' x' hx' => ⟨(Fx.er k' x' hx').1, (Fx.er k' x' hx').2.1, (Fx.er k' x' hx').2.2.1, raises_own (Fx.er k' x' hx').2.2.2.1 (Fx.er k' x' hx').2.2.2.2⟩, Fx.sb, Fx.sx, Fx.ct, wk_of L, wd_of L Fx (by have := hr.dp; show (A.deeper _).depth < _; omega) (by have := hr.un; show (A.deeper _).units + 100 < cLine; omega), fun k' fa' hfa => ?_⟩, passes_of rfl, rfl, rfl⟩
  · have := hr.un
    show (A.deeper _).units + 65 < cLine
    omega
  · obtain ⟨d, v, u, h1, h2, h3, h4⟩ := Fx.cn k x hx
    exact ⟨d, v, u, h1, h2, h3, fun H => h4 _ H rfl rfl⟩
  · replace hfa : fnA fn K k' = some fa' := hfa
    unfold fnA at hfa
    obtain ⟨d', hd', e'⟩ := Option.map_eq_some_iff.mp hfa
    subst e'
    have hlt : k' < fn.length := by
      by_cases hlt : k' < fn.length
      · exact hlt
      · rw [List.getElem?_eq_none (by omega)] at hd'; cases hd'
    have hF' : T.fns[k']? = some (T.fns[k']'(by rw [← L.len]; exact hlt)) := List.getElem?_eq_getElem _
    obtain ⟨fd', FD'⟩ := Fx.def_ k' d' hd'
    obtain ⟨N', ps', t'⟩ := L.defs k' d' _ hd' hF'
    refine ⟨n, fd', ps', _, I1 k' d' _ hd' hF' fd' FD' N' ps' t', hr, FD'.kp, (t'.plain FD').bindsN t'.bind, fun ds => ?_, fun ds => ?_⟩
    · show run T n k' ds = .bad ∨ _
      cases n with
      | zero => exact .inl rfl
      | succ n => rw [run_fn hF']; exact callF_len
    · show noM (run T n k' ds)
      cases n with
      | zero => trivial
      | succ n => rw [run_fn hF']; exact callF_noM
  · replace hfa : fnA fn K k' = some fa' := hfa
    unfold fnA at hfa
    obtain ⟨d', hd', e'⟩ := Option.map_eq_some_iff.mp hfa
    subst e'
    have hlt : k' < fn.length := by
      by_cases hlt : k' < fn.length
      · exact hlt
      · rw [List.getElem?_eq_none (by omega)] at hd'; cases hd'
    have hF' : T.fns[k']? = some (T.fns[k']'(by rw [← L.len]; exact hlt)) := List.getElem?_eq_getElem _
    obtain ⟨fd', FD'⟩ := Fx.def_ k' d' hd'
    obtain ⟨N', ps', t'⟩ := L.defs k' d' _ hd' hF'
    refine ⟨n, fd', ps', _, I2 k' d' _ hd' hF' fd' FD' N' ps' t', hr, FD'.kp, (t'.plain FD').bindsN t'.bind, fun ds => ?_, fun ds => ?_⟩
    · show run T n (g.fns.length + k') ds = .bad ∨ _
      cases n with
      | zero => exact .inl rfl
      | succ n => rw [L.gl, run_lak hF']; exact lakR_len
    · show noM (run T n (g.fns.length + k') ds)
      cases n with
      | zero => trivial
      | succ n => rw [L.gl, run_lak hF']; exact lakR_noM
/-- the def that tells the figure that lacks, a token out -/
theorem fnt_of (L : Law fn T g) {n f k : Nat} {d : He.DefD} {F : Fn} {fa : Addr} {fd : FuncData} {N ps : List Str} (t : DefT g d F N ps) (FD : FunD K d.name d.qual d.params d.body d.scope [] [] fa fd)
    (hc : ∀ (cdv : Value) (A : Around) (outer : List Env) (s : Shared) (H : Hp) (E : XK), Room n (A.deeper (envOfC d.qual d.scope s.heap.objs.size fa cdv)) → CtxS g (geOf P w K mg h0 fn ea) (calT T (run T n)) (fun cls dd _ H' => E cls dd H') (cxOf (L2.CX P w) P w K mg base N d.qual d.scope fa cdv A outer s H E) ⟨N, d.scope, fun _ => true⟩)
    (ck : lakB g ⟨N, d.scope, fun _ => true⟩ f k d.body = true) (hlk : lakOf F.body = some (f, k)) : FnT P w K mg base (n + 1) fa fd ps (spD (geOf P w K mg h0 fn ea) F.np (lakR (calT T (run T n)) F)) := by
  refine ⟨fun vs H Q E h => h.1.trans t.np, fun A outer s H args us vs Q E h1 hr e0 hb r h => ?_⟩
  obtain ⟨hl, F', ds, rl, dom, p⟩ := h
  obtain ⟨oc, od, dV, kV, doc, pm, an, cdv, ct, osl, rfl, lk, hcd, _, _⟩ := FD.ex
  have hds : ds.length = F.np := by rw [← rl.len]; exact hl
  have S := t.sc
  have KX : K.In s.heap := e0.mod.kin.keeps fun b o e => (e0.bs b o e).1
  have lim : s.heap.NoLimit := e0.mod.nolimit.keeps fun b o e => (e0.bs b o e).1
  have hkind : ∀ y ∈ ps.zip us, d.scope.names.lookup y.1 = some .local ∨ (d.scope.names.lookup y.1 = some .cell ∧ ((cellsFrom (s.heap.objs.size + 1) d.scope.names []).lookup y.1).isSome = true) := fun ⟨n, v⟩ hy => by
    rcases S.par n (List.of_mem_zip hy).1 with q | q
    · exact .inl q
    · exact .inr ⟨q, PySem.W.cellsFrom_some _ _ _ (.inl q)⟩
  refine codeAny_call_function hr.depth (KX _ _ lk) rfl S.co S.gen rfl (PySem.W.codeRec_of KX hcd) (hb _ _ _ _ ?_)
  refine PySem.wpAny_with_toks h1 (wpAny_newFunctionEnv_cells S.kind hkind fun env he s1 x => ?_)
  subst he
  intro hto
  refine ⟨lim.keeps x.toInCall.keep, codeAny_func ?_⟩
  have I : Inv (cxOf (L2.CX P w) P w K mg base N d.qual d.scope fa cdv A outer s H E) [] (L2.start N vs) H s1 := inv_start S hr.hd e0 (hl.trans t.np) r x
  have body := psst_lak (Fc := F') (B := H) (hc cdv A outer s H E (hr.deeper _)).e ck
  unfold lakR at p
  rw [hlk] at p
  match ds, hds, rl, p with
  | [d'], hds, rl, p =>
    dsimp only at p
    split at p
    · rename_i hz
      obtain ⟨z1, z2⟩ := hz
      refine wpAny_mono (body [] s1 (L2.start N vs) H { nx := fun _ H' => Q .non H', rt := Q } hto I ⟨[some (.im d'), none], ⟨F', ?_⟩, ?_⟩) (fun fl s' hs => ?_) fun e s' hs => hs
      · have z := start_env rl dom (np := F.np) (ns := F.ns) hds t.ns
        rw [z1, z2] at z
        exact z
      · show PFl _ _ _ _ _ ((lakM (calT T (run T n)) f k [some (.im d'), none]).ret [some (.im d'), none])
        cases hx : lakM (calT T (run T n)) f k [some (.im d'), none] with
        | ok y => rw [hx] at p; exact fun v H' s r => p v H' s r
        | okm xs => rw [hx] at p; exact p.elim
        | exc c => rw [hx] at p; exact fun σ H' ⟨F2, S⟩ => p H' S.sm
        | bad => rw [hx] at p; exact p.elim
      · have fin : ∀ {σ' : L2.St} {H' : Hp} {v : V} {u : Value}, Inv (cxOf (L2.CX P w) P w K mg base N d.qual d.scope fa cdv A outer s H E) [] σ' H' s' → RelV v u → Q v H' → CE outer P w H s Q u s' :=
          fun {σ' H' v u} J rv q => ⟨v, H', J.os, J.bare, J.base, J.hok, rv, q⟩
        cases fl with
        | ret u =>
          obtain ⟨v, σ', H', J, rv, q⟩ := hs
          exact fin J rv q
        | next =>
          obtain ⟨σ', H', J, q⟩ := hs
          exact fin (v := V.non) (u := Value.none) J rfl q
        | brk =>
          obtain ⟨_, _, _, q⟩ := hs
          exact False.elim q
        | cont =>
          obtain ⟨_, _, _, q⟩ := hs
          exact False.elim q
    · exact p.elim
  | [], hds, rl, p => exact p.elim
  | _ :: _ :: _, hds, rl, p => exact p.elim
theorem both_ok (L : Law fn T g) (Fx : Facts g fn T K mg ea) : ∀ (n : Nat),
    (∀ (k : Nat) (d : He.DefD) (F : Fn), fn[k]? = some d → T.fns[k]? = some F → ∀ (fd : FuncData), FunD K d.name d.qual d.params d.body d.scope (d.dvs K) (d.kws K) (He.fAd K d.at_) fd → ∀ (N ps : List Str), DefT g d F N ps → FnOk P w K mg base (L2.CX P w) n (He.fAd K d.at_) fd ps (spD (geOf P w K mg h0 fn ea) F.np (run T n k))) ∧
    (∀ (k : Nat) (d : He.DefD) (F : Fn), fn[k]? = some d → T.fns[k]? = some F → ∀ (fd : FuncData), FunD K d.name d.qual d.params d.body d.scope (d.dvs K) (d.kws K) (He.fAd K d.at_) fd → ∀ (N ps : List Str), DefT g d F N ps → FnT P w K mg base n (He.fAd K d.at_) fd ps (spD (geOf P w K mg h0 fn ea) F.np (run T n (g.fns.length + k))))
  | 0 => ⟨fun k d F hd hF fd FD N ps t => ⟨fun vs H Q E h => h.1.trans t.np, fun A outer s H args us vs Q E _ _ _ _ h => by
      obtain ⟨_, F', ds, _, _, p⟩ := h
      exact p.elim⟩, fun k d F hd hF fd FD N ps t => ⟨fun vs H Q E h => h.1.trans t.np, fun A outer s H args us vs Q E _ _ _ _ _ h => by
      obtain ⟨_, F', ds, _, _, p⟩ := h
      exact p.elim⟩⟩
  | n + 1 => by
    obtain ⟨I1, I2⟩ := both_ok L Fx n
    refine ⟨fun k d F hd hF fd FD N ps t => ?_, fun k d F hd hF fd FD N ps t => ?_⟩
    · refine FD.ok t.sc (fun vs H Q E h => h.1.trans t.np) fun cdv A outer s H vs Q E hr h => ?_
      obtain ⟨hl, F', ds, r, dom, p⟩ := h
      rw [run_fn hF] at p
      have hds : ds.length = F.np := by rw [← r.len]; exact hl
      by_cases hwb : F.body.isW = true
      · rw [callF_wrd hwb] at p
        exact p.elim
      cases hlk : lakOf F.body with
      | some z =>
        rw [callF_lak hlk] at p
        exact p.elim
      | none =>
        have tchk : chkSs g ⟨N, d.scope, fun _ => true⟩ F.body false d.body = true := by
          have := t.chk
          unfold chkTop at this
          rw [if_neg hwb, hlk] at this
          exact this
        refine ⟨tS (geOf P w K mg h0 fn ea) (fun cls dd _ H' => E cls dd H') F' H (exSs (calT T (run T n)) F.body), (sndSs F.body false d.body _ _ ⟨N, d.scope, fun _ => true⟩ (ctx_of L Fx n I1 I2 t hr) tchk F' H).plain, ?_⟩
        refine ⟨_, ⟨F', start_env r dom hds t.ns⟩, ?_⟩
        unfold callF at p
        rw [if_pos hds] at p
        cases hx : exSs (calT T (run T n)) F.body (ds.map (fun d => some (.im d)) ++ List.replicate (F.ns - F.np) none) with
        | nx ρ =>
          rw [hx] at p
          exact fun σ H' ⟨F2, S⟩ => p _ H' S.sm .non
        | rt d =>
          rw [hx] at p
          exact fun v H' s r => p v H' s r
        | exc c ρ =>
          rw [hx] at p
          exact fun σ H' ⟨F2, S⟩ => p H' S.sm
        | bad => rw [hx] at p; exact p.elim
    · have er : run T (n + 1) (g.fns.length + k) = lakR (calT T (run T n)) F := by
        funext ds
        rw [L.gl, run_lak hF]
      rw [er]
      cases hlk : lakOf F.body with
      | none =>
        refine ⟨fun vs H Q E h => h.1.trans t.np, fun A outer s H args us vs Q E _ _ _ _ _ h => ?_⟩
        obtain ⟨_, F', ds, _, _, p⟩ := h
        unfold lakR at p
        rw [hlk] at p
        exact p.elim
      | some z =>
        obtain ⟨f, kk⟩ := z
        have ck := t.chk
        unfold chkTop at ck
        rw [if_neg (by rw [lak_isW hlk]; exact Bool.false_ne_true), hlk] at ck
        exact fnt_of L t (t.plain FD) (fun cdv A outer s H E hr => ctx_of L Fx n I1 I2 t hr) ck hlk
theorem defs_ok (L : Law fn T g) (Fx : Facts g fn T K mg ea) (n k : Nat) (d : He.DefD) (F : Fn) (hd : fn[k]? = some d) (hF : T.fns[k]? = some F) (fd : FuncData) (FD : FunD K d.name d.qual d.params d.body d.scope (d.dvs K) (d.kws K) (He.fAd K d.at_) fd) (N ps : List Str) (t : DefT g d F N ps) :
    FnOk P w K mg base (L2.CX P w) n (He.fAd K d.at_) fd ps (spD (geOf P w K mg h0 fn ea) F.np (run T n k)) := (both_ok L Fx n).1 k d F hd hF fd FD N ps t
end
/-! ### the end -/
theorem walk_ofW {l : PySem.W.OpenLaw} {n k : Nat} {q : Program} {loose : List Str} {XP : (Str → Option Value) → Heap → Prop} {YP : World → Heap → Prop} {d : DefRec} {CX : World → CXT} {x : Str}
    (hn : l.most = some n) (hn2 : n ≤ sizeLine) (hdf : d.params.defaults = []) (hr : Room k callerA)
    (F : ∀ (w : World) (mg : Str → Option Value) (fa : Addr) (h : Heap), YP w h → h.Ns mainGlobals mg → mg d.name = some (.ref fa) →
      ∃ (K : PySem.W.Frag) (fd : FuncData) (sp : Sp), K.In h ∧ (∀ (s : Shared) (u : Value), BindsTo s fd ⟨[u], []⟩ [(x, u)]) ∧
        (∀ (H : Hp) (a : Addr) (ns : List Int), ns.length ≤ n → Only H → SqL K H a (ns.map V.int) → sp [.ref a] H (fun v _ => v = .bl true) fun _ _ _ => False) ∧
        ∀ base : Heap, K.In base → base.Ns mainGlobals mg → FnOk l.prog w K mg base (CX w) k fa fd [x] sp)
    (hCX : ∀ (w : World) (H : Hp) (s : Shared) (e : Value) (s' : Shared), CX w [] H s (fun _ _ _ => False) e s' → False) :
    PySem.W.WalkO q loose XP YP l.row.toRowW d [] (fun f vs => PySem.call f vs) := by
  refine Att.attach_call hn hdf fun w s₀ s₁ mg mb fa o pm cd doc a vs ns G Y ho hd hcd hmg hobj hints hlen hg => ?_
  obtain ⟨K, fd, sp, KX, hb, hsp, hF⟩ := F w mg fa _ Y G.T.g hmg
  exact law_call KX G.T.g G.T.b G.T.builtins G.T.nolimit hg hobj hints (Nat.le_trans hlen hn2) hr hF hb (fun H hO hS => hsp H a ns hlen hO hS) fun H e s' => hCX w H s₁ e s'
/-- all defs -/
inductive AllT (g : Gt) : List He.DefD → List Fn → Prop
  | nil : AllT g [] []
  | cons {d : He.DefD} {F : Fn} {N ps : List Str} {ds : List He.DefD} {Fs : List Fn} : DefT g d F N ps → AllT g ds Fs → AllT g (d :: ds) (F :: Fs)
theorem AllT.get {g : Gt} : ∀ {ds : List He.DefD} {Fs : List Fn}, AllT g ds Fs → ds.length = Fs.length ∧ ∀ (k : Nat) (d : He.DefD) (F : Fn), ds[k]? = some d → Fs[k]? = some F → ∃ N ps, DefT g d F N ps
  | _, _, .nil => ⟨rfl, fun k d F h => by simp at h⟩
  | _, _, .cons t r => ⟨congrArg Nat.succ r.get.1, fun k d F h1 h2 => by
    cases k with
    | zero => simp at h1 h2; subst h1 h2; exact ⟨_, _, t⟩
    | succ k => exact r.get.2 k d F (by simpa using h1) (by simpa using h2)⟩
/-- the names, as the defs and constants stand -/
def gtOf (fn : List He.DefD) (cn : List (Str × D)) (es : List (Str × List Bool)) : Gt := ⟨fn.map fun d => d.at_.1, cn.map (·.1), es.map (·.1)⟩
/-- a class of errors, which of all it is under -/
def subOf (es : List (Str × List Bool)) (k l : Nat) : Option Bool := (es[k]?).bind fun e => ((List.zip (es.map (·.1)) e.2)[l]?).map (·.2)
def eaOf (es : List (Str × List Bool)) (K : PySem.W.Frag) (k : Nat) : Addr := He.ga K (((es[k]?).map (·.1)).getD "")
def exF (es : List (Str × List Bool)) : List He.Fa := es.flatMap fun e => .glo e.1 :: .exc e.1 :: (List.zip (es.map (·.1)) e.2).map fun z => .exm e.1 z.1 z.2
def faOf (fn : List He.DefD) (es : List (Str × List Bool)) : List He.Fa := fn.map (fun d => .glo d.at_.1) ++ (bltS.map .free ++ exF es)
theorem facts_of {fn : List He.DefD} {cn : List (Str × D)} {es : List (Str × List Bool)} {T : Tab} {K : PySem.W.Frag} {h : Heap} {mg : Str → Option Value} (X : K.In h) (G : h.Ns mainGlobals mg) (c : He.SaysD (faOf fn es) fn K) (cc : cnB fn cn K = true) (cx : exB es K = true) (cy : ctB cn K = true) (hp : fn.all (fun d => d.at_.2.isNone) = true) (hT : T.consts = cn.map (·.2)) (hsub : T.sub = subOf es) : Facts (gtOf fn cn es) fn T K mg (eaOf es K) := by
  have ok : ∀ f ∈ faOf fn es, f.ok K = true := fun f hf => by
    have c1 := (He.ba (show (((faOf fn es).all fun f => f.ok K) && fn.all fun d => d.ok K) = true from congrArg (fun z : He.AlD => z.1) c)).1
    exact List.all_eq_true.mp c1 f hf
  have xe : ∀ k e, es[k]? = some e → eaOf es K k = He.ga K e.1 ∧ excCB K (He.ga K e.1) = true ∧ PySem.W.kitOne K (.ref (He.ga K e.1)) (.type "ValueError") = some true ∧ ∀ z ∈ List.zip (es.map (·.1)) e.2, PySem.W.kitOne K (.ref (He.ga K e.1)) (.ref (He.ga K z.1)) = some z.2 := fun k e hk => by
    have z := List.all_eq_true.mp cx e (List.mem_of_getElem? hk)
    obtain ⟨z1, z2⟩ := and2 z
    obtain ⟨z2, z3⟩ := and2 z2
    refine ⟨by unfold eaOf; rw [hk]; rfl, z1, of_decide_eq_true z2, fun y hy => of_decide_eq_true (List.all_eq_true.mp z3 y hy)⟩
  refine ⟨fun x hx => ?_, fun k x hk => ?_, fun k x hk => ?_, fun k d hd => c.def_ k hd, fun k x hk => ?_, fun k l b hk => ?_, ⟨fun k x hk => ?_, fun k l b hk => ?_, fun k x hk => ?_⟩, fun k x ds hk hds => ?_⟩
  · exact He.free_ok X G (ok (.free x) (List.mem_append.mpr (.inr (List.mem_append.mpr (.inl (List.mem_map.mpr ⟨x, hx, rfl⟩))))))
  · replace hk : (fn.map fun d => d.at_.1)[k]? = some x := hk
    rw [List.getElem?_map] at hk
    obtain ⟨d, hd, e⟩ := Option.map_eq_some_iff.mp hk
    subst e
    refine ⟨He.fAd K d.at_, by unfold fnA; rw [hd]; rfl, ?_⟩
    have hm := List.mem_of_getElem? hd
    have z := He.glo_ok X G (ok (.glo d.at_.1) (List.mem_append.mpr (.inl (List.mem_map.mpr ⟨d, hm, rfl⟩))))
    have hn := List.all_eq_true.mp hp d hm
    have e2 : He.fAd K d.at_ = He.ga K d.at_.1 := by
      unfold He.fAd
      cases q : d.at_.2 with
      | none => rfl
      | some m => rw [q] at hn; cases hn
    rw [e2]; exact z
  · replace hk : (cn.map (·.1))[k]? = some x := hk
    rw [List.getElem?_map] at hk
    obtain ⟨⟨y, d⟩, hd, e⟩ := Option.map_eq_some_iff.mp hk
    cases e
    obtain ⟨u, v, h1, h2, h3⟩ := cnB_ok X G cc (List.mem_of_getElem? hd)
    exact ⟨d, v, u, by rw [hT, List.getElem?_map, hd]; rfl, h1, h2, h3⟩
  · replace hk : (es.map (·.1))[k]? = some x := hk
    rw [List.getElem?_map] at hk
    obtain ⟨e, hd, q⟩ := Option.map_eq_some_iff.mp hk
    have ea : eaOf es K k = He.ga K x := by
      unfold eaOf
      rw [hd]
      show He.ga K e.1 = _
      rw [q]
    have inn : ∀ f, f ∈ (.glo e.1 :: .exc e.1 :: (List.zip (es.map (·.1)) e.2).map fun z => He.Fa.exm e.1 z.1 z.2) → f.ok K = true := fun f hf => ok f (List.mem_append.mpr (.inr (List.mem_append.mpr (.inr (List.mem_flatMap.mpr ⟨e, List.mem_of_getElem? hd, hf⟩)))))
    have z := He.exc_ok (inn (.exc e.1) (by simp))
    rw [q] at z
    have y := He.glo_ok X G (inn (.glo e.1) (by simp))
    rw [q] at y
    rw [ea]
    exact ⟨y, z⟩
  · rw [hsub] at hk
    unfold subOf at hk
    obtain ⟨e, hd, hk⟩ := Option.bind_eq_some_iff.mp hk
    obtain ⟨z, hz, q⟩ := Option.map_eq_some_iff.mp hk
    have inn : ∀ f, f ∈ (.glo e.1 :: .exc e.1 :: (List.zip (es.map (·.1)) e.2).map fun z => He.Fa.exm e.1 z.1 z.2) → f.ok K = true := fun f hf => ok f (List.mem_append.mpr (.inr (List.mem_append.mpr (.inr (List.mem_flatMap.mpr ⟨e, List.mem_of_getElem? hd, hf⟩)))))
    have y := He.exm_ok (inn (.exm e.1 z.1 z.2) (List.mem_cons_of_mem _ (List.mem_cons_of_mem _ (List.mem_map.mpr ⟨z, List.mem_of_getElem? hz, rfl⟩))))
    have ez : (es.map (·.1))[l]? = some z.1 := by
      obtain ⟨z1, z2⟩ := z
      exact (List.getElem?_zip_eq_some.mp hz).1
    have e1 : eaOf es K k = He.ga K e.1 := by
      unfold eaOf
      rw [hd]; rfl
    have e2 : eaOf es K l = He.ga K z.1 := by
      unfold eaOf
      rw [List.getElem?_map] at ez
      rw [ez]; rfl
    rw [e1, e2, ← q]
    exact y
  · replace hk : (es.map (·.1))[k]? = some x := hk
    rw [List.getElem?_map] at hk
    obtain ⟨e, hd, q⟩ := Option.map_eq_some_iff.mp hk
    obtain ⟨a1, a2, a3, a4⟩ := xe k e hd
    rw [a1]; exact excCB_ok a2
  · rw [hsub] at hk
    unfold subOf at hk
    obtain ⟨e, hd, hk⟩ := Option.bind_eq_some_iff.mp hk
    obtain ⟨z, hz, q⟩ := Option.map_eq_some_iff.mp hk
    obtain ⟨a1, a2, a3, a4⟩ := xe k e hd
    have ez : (es.map (·.1))[l]? = some z.1 := by
      obtain ⟨z1, z2⟩ := z
      exact (List.getElem?_zip_eq_some.mp hz).1
    have e2 : eaOf es K l = He.ga K z.1 := by
      unfold eaOf
      rw [List.getElem?_map] at ez
      rw [ez]; rfl
    refine ⟨e.1, by show (es.map (·.1))[k]? = _; rw [List.getElem?_map, hd]; rfl, ?_⟩
    rw [a1, e2, ← q]
    exact a4 z (List.mem_of_getElem? hz)
  · replace hk : (es.map (·.1))[k]? = some x := hk
    rw [List.getElem?_map] at hk
    obtain ⟨e, hd, q⟩ := Option.map_eq_some_iff.mp hk
    obtain ⟨a1, a2, a3, a4⟩ := xe k e hd
    rw [a1]; exact a3
  · replace hk : (cn.map (·.1))[k]? = some x := hk
    rw [List.getElem?_map] at hk
    obtain ⟨⟨y, d⟩, hd, e⟩ := Option.map_eq_some_iff.mp hk
    cases e
    rw [hT, List.getElem?_map, hd] at hds
    cases hds
    exact ctB_ok X G cy (List.mem_of_getElem? hd)
theorem sol_none {H : Hp} : sol H (fun _ => False) = H := by
  funext a
  exact sol_at fun z => z
/-- what the end wants -/
theorem end_of {fn : List He.DefD} {cn : List (Str × D)} {es : List (Str × List Bool)} {T : Tab} {P : Program} {m n k : Nat} {d : He.DefD} {F : Fn} {N : List Str} {x : Str} (A : AllT (gtOf fn cn es) fn T.fns) (hp : fn.all (fun d => d.at_.2.isNone) = true) (hT : T.consts = cn.map (·.2)) (hsub : T.sub = subOf es) (hw : T.word = wordF) (hww : (!(T.fns.any fun F => F.body.isW && F.np == 1) || wOkB T.sub es.length) = true) (hd : fn[k]? = some d) (hF : T.fns[k]? = some F) (t : DefT (gtOf fn cn es) d F N [x])
    (math : ∀ ns : List Int, ns.length ≤ 63 → run T n k [.frz ns] = .ok (.bl true)) (w : World) (mg : Str → Option Value) (fa : Addr) (h : Heap) (Y : (hookC m (faOf fn es) fn cn es).says w h) (G : h.Ns mainGlobals mg) (hmg : mg d.at_.1 = some (.ref fa)) :
    ∃ (K : PySem.W.Frag) (fd : FuncData) (sp : Sp), K.In h ∧ (∀ (s : Shared) (u : Value), BindsTo s fd ⟨[u], []⟩ [(x, u)]) ∧
      (∀ (H : Hp) (a : Addr) (ns : List Int), ns.length ≤ 63 → Only H → SqL K H a (ns.map V.int) → sp [.ref a] H (fun v _ => v = .bl true) fun _ _ _ => False) ∧
      ∀ base : Heap, K.In base → base.Ns mainGlobals mg → FnOk P w K mg base (L2.CX P w) n fa fd [x] sp := by
  obtain ⟨K, KX, c, cc0⟩ := Y
  obtain ⟨cc, cx0⟩ := and2 cc0
  obtain ⟨cx, cy⟩ := and2 cx0
  have Fx := facts_of (T := T) KX G c cc cx cy hp hT hsub
  obtain ⟨fd, FD⟩ := Fx.def_ k d hd
  obtain ⟨fa', h1, h2⟩ := Fx.fns k d.at_.1 (by show (fn.map fun d => d.at_.1)[k]? = _; rw [List.getElem?_map, hd]; rfl)
  rw [hmg] at h2
  cases h2
  have e : He.fAd K d.at_ = fa := by
    unfold fnA at h1
    rw [hd] at h1
    exact Option.some.inj h1
  refine ⟨K, fd, spD (geOf P w K mg h fn (eaOf es K)) F.np (run T n k), KX, fun s u => ?_, fun H a ns hl _ hS => ?_, fun base KB GB => ?_⟩
  · exact (t.plain FD).bindsA t.bind s [u] rfl
  · refine ⟨by rw [t.np]; rfl, fun _ => False, [.frz ns], .cons (.frz (by rw [sol_none]; exact hS) (Nat.le_trans hl (by rw [sizeLine_eq]; decide))) .nil, fun _ z => z.elim, ?_⟩
    rw [math ns hl]
    intro v H' s r
    cases r
    rfl
  · rw [← e]
    have A2 := A.get
    have ww : ∀ k, T.isW k = true → wOkB T.sub (gtOf fn cn es).errs.length = true := fun k hk => by
      rw [Bool.or_eq_true] at hww
      rcases hww with h | h
      · exfalso
        unfold Tab.isW at hk
        split at hk
        · rename_i F hF
          have : (T.fns.any fun F => F.body.isW && F.np == 1) = true := List.any_eq_true.mpr ⟨F, List.mem_of_getElem? hF, hk⟩
          rw [this] at h
          cases h
        · cases hk
      · show wOkB T.sub (es.map (·.1)).length = true
        rw [List.length_map]; exact h
    exact defs_ok ⟨A2.1, (List.length_map ..).trans A2.1, hw, ww, A2.2⟩ (facts_of KX G c cc cx cy hp hT hsub) n k d F hd hF fd FD N [x] t
end Dk

/-! DkM: laws of the evaluator. No program in sight. -/
namespace Dk
section
variable {d : D} {xs : List D} {c : Nat} {f : D → R} {g : D → Fl} {h : List D → R} {k : List D → Fl} {ρ : En}
@[simp] theorem bnd_ok : (R.ok d).bnd f = f d := rfl
@[simp] theorem bnd_okm : (R.okm xs).bnd f = f (.lst xs) := rfl
@[simp] theorem bndS_ok : (R.ok d).bndS f = f d := rfl
@[simp] theorem rsb_ok : (Rs.ok xs).bnd h = h xs := rfl
@[simp] theorem wkb_ok : (Wk.ok xs).bnd h = h xs := rfl
@[simp] theorem thn_ok : (R.ok d).thn ρ g = g d := rfl
@[simp] theorem thnW_ok : (R.ok d).thnW ρ g = g d := rfl
@[simp] theorem thnW_okm : (R.okm xs).thnW ρ g = g (.lst xs) := rfl
@[simp] theorem rst_ok : (Rs.ok xs).thn ρ k = k xs := rfl
@[simp] theorem wkt_ok : (Wk.ok xs).thn ρ k = k xs := rfl
@[simp] theorem ret_ok : (R.ok d).ret ρ = .rt d := rfl
@[simp] theorem nxt_nx {F : En → Fl} : (Fl.nx ρ).nxt F = F ρ := rfl
@[simp] theorem nxt_rt {F : En → Fl} : (Fl.rt d).nxt F = .rt d := rfl
@[simp] theorem toW_ok {w : Bool} {F : D → Wk} : (R.ok d).toW w F = F d := rfl
@[simp] theorem toW_okm {F : D → Wk} : (R.okm xs).toW true F = F (.lst xs) := rfl
@[simp] theorem consL_ok : consL (.ok d) (.ok xs) = .ok (d :: xs) := rfl
@[simp] theorem consW_ok : consW (.ok d) (.ok xs) = .ok (d :: xs) := rfl
@[simp] theorem consW_okm {ys : List D} : consW (.okm ys) (.ok xs) = .ok (.lst ys :: xs) := rfl
@[simp] theorem andR_t {r : R} : andR (.bl true) r = r := rfl
@[simp] theorem andR_f {r : R} : andR (.bl false) r = .ok (.bl false) := rfl
@[simp] theorem orR_t {r : R} : orR (.bl true) r = .ok (.bl true) := rfl
@[simp] theorem orR_f {r : R} : orR (.bl false) r = r := rfl
@[simp] theorem notD_bl {b : Bool} : notD (.bl b) = .ok (.bl (!b)) := rfl
@[simp] theorem ifF_t {a b : Fl} : ifF (.bl true) a b = a := rfl
@[simp] theorem ifF_f {a b : Fl} : ifF (.bl false) a b = b := rfl
@[simp] theorem ifR_t {a b : R} : ifR (.bl true) a b = a := rfl
@[simp] theorem ifR_f {a b : R} : ifR (.bl false) a b = b := rfl
@[simp] theorem optL_some : optL (some xs) = .ok (.lst xs) := rfl
@[simp] theorem enum_ok : (Wk.ok xs).enum = .ok (enumD 0 xs) := rfl
@[simp] theorem ofO_some : ofO (some ρ) = .nx ρ := rfl
@[simp] theorem notR_bl {b : Bool} : notR (.ok (.bl b)) = .ok (.bl (!b)) := rfl
@[simp] theorem truD_bl {b : Bool} : truD (.bl b) = some b := rfl
end
section
variable {T : Tab} {call : Nat → List D → R} {k : Nat} {ds : List D}
@[simp] theorem cal_call : (calT T call).call k ds = call k ds := rfl
@[simp] theorem cal_glob : (calT T call).glob k = T.consts[k]? := rfl
theorem run_at {n f : Nat} {F : Fn} (h : T.fns[f]? = some F) : run T (n + 1) f ds = callF (calT T (run T n)) F ds := by
  show (match T.fns[f]? with
    | some F => callF (calT T (run T n)) F ds
    | none => lakT T (calT T (run T n)) (f - T.fns.length) ds) = _
  rw [h]
end
/-! ### loops -/
theorem forL_inv {f : D → En → Fl} (I : Nat → En → Prop) : ∀ (ds : List D) (i : Nat) (ρ : En), I i ρ → (∀ j d ρ, ds[j]? = some d → I (i + j) ρ → ∃ ρ', f d ρ = .nx ρ' ∧ I (i + j + 1) ρ') → ∃ ρ', forL f ds ρ = .nx ρ' ∧ I (i + ds.length) ρ'
  | [], i, ρ, h, _ => ⟨ρ, rfl, h⟩
  | d :: ds, i, ρ, h, s => by
    obtain ⟨ρ1, e1, h1⟩ := s 0 d ρ rfl h
    obtain ⟨ρ2, e2, h2⟩ := forL_inv I ds (i + 1) ρ1 h1 fun j d' ρ' e k => by
      have e0 : i + 1 + j = i + (j + 1) := by omega
      rw [e0] at k ⊢
      exact s (j + 1) d' ρ' e k
    refine ⟨ρ2, ?_, ?_⟩
    · show (f d ρ).nxt _ = _
      rw [e1]; exact e2
    · have e0 : i + (d :: ds).length = i + 1 + ds.length := by rw [List.length_cons]; omega
      rw [e0]; exact h2
theorem compL_map {f : D → Option En} {c : En → R} {e : En → R} {g : D → D} : ∀ (ds : List D), (∀ d ∈ ds, ∃ ρ, f d = some ρ ∧ c ρ = .ok (.bl true) ∧ e ρ = .ok (g d)) → compL f c e ds = some (ds.map g)
  | [], _ => rfl
  | d :: ds, h => by
    obtain ⟨ρ, h1, h2, h3⟩ := h d (List.mem_cons_self ..)
    have ih := compL_map ds fun x hx => h x (List.mem_cons_of_mem _ hx)
    unfold compL
    simp only [h1, h2, h3, truD_bl, ih]
    rfl
theorem compL_filter {f : D → Option En} {c : En → R} {e : En → R} {g : D → D} {p : D → Bool} : ∀ (ds : List D), (∀ d ∈ ds, ∃ ρ, f d = some ρ ∧ c ρ = .ok (.bl (p d)) ∧ e ρ = .ok (g d)) → compL f c e ds = some ((ds.filter p).map g)
  | [], _ => rfl
  | d :: ds, h => by
    obtain ⟨ρ, h1, h2, h3⟩ := h d (List.mem_cons_self ..)
    have ih := compL_filter ds fun x hx => h x (List.mem_cons_of_mem _ hx)
    unfold compL
    simp only [h1, h2, h3, truD_bl, ih]
    cases hp : p d with
    | true => rw [List.filter_cons_of_pos hp]; rfl
    | false => rw [List.filter_cons_of_neg (by rw [hp]; exact Bool.false_ne_true)]
/-! ### data -/
mutual
theorem datN_up : ∀ (d : D) (n m : Nat), n ≤ m → datN n d = true → datN m d = true
  | .non, n, m, _, _ => by simp [datN]
  | .bl _, n, m, _, _ => by simp [datN]
  | .int _, n, m, _, _ => by simp [datN]
  | .str _, n, m, _, _ => by simp [datN]
  | .tup xs, n, m, h, k => by
    cases n with
    | zero => simp [datN] at k
    | succ n =>
      cases m with
      | zero => omega
      | succ m =>
        simp only [datN] at k ⊢
        exact datL_up xs n m (by omega) k
  | .lst xs, n, m, h, k => by
    cases n with
    | zero => simp [datN] at k
    | succ n =>
      cases m with
      | zero => omega
      | succ m =>
        simp only [datN] at k ⊢
        exact datL_up xs n m (by omega) k
  | .frz _, n, m, _, k => by simp [datN] at k
  | .fn _, n, m, _, k => by simp [datN] at k
theorem datL_up : ∀ (xs : List D) (n m : Nat), n ≤ m → datL n xs = true → datL m xs = true
  | [], _, _, _, _ => by simp [datL]
  | x :: xs, n, m, h, k => by
    simp only [datL, Bool.and_eq_true] at k ⊢
    exact ⟨datN_up x n m h k.1, datL_up xs n m h k.2⟩
end
theorem datL_iff {n : Nat} : ∀ {xs : List D}, datL n xs = true ↔ ∀ x ∈ xs, datN n x = true
  | [] => by simp [datL]
  | x :: xs => by simp [datL, datL_iff (xs := xs)]
theorem dat_of {d : D} {n : Nat} (h : datN n d = true) (hn : n ≤ 60) : dat d = true := datN_up d n 60 hn h
theorem datL_of {xs : List D} {n : Nat} (h : datL n xs = true) (hn : n ≤ 59) : datL 59 xs = true := datL_up xs n 59 hn h
/-! ### items -/
theorem ixN_lt {n : Nat} {i : Int} (h0 : 0 ≤ i) (h1 : i < n) : ixN n i = some i.toNat := by
  unfold ixN
  rw [if_pos h0, if_pos h1]
theorem atI_lt {α : Type} {xs : List α} {i : Int} (h0 : 0 ≤ i) (h1 : i < xs.length) : ∃ x, atI xs i = some x ∧ x ∈ xs ∧ xs[i.toNat]? = some x := by
  have hl : i.toNat < xs.length := by omega
  refine ⟨xs[i.toNat], ?_, List.getElem_mem _, List.getElem?_eq_getElem hl⟩
  unfold atI
  rw [ixN_lt h0 h1]
  exact List.getElem?_eq_getElem hl
theorem ixD_lst {xs : List D} {i : Int} (h0 : 0 ≤ i) (h1 : i < xs.length) : ∃ x, ixD (.lst xs) (.int i) = .ok x ∧ x ∈ xs ∧ xs[i.toNat]? = some x := by
  obtain ⟨x, e, m, k⟩ := atI_lt h0 h1
  exact ⟨x, by simp only [ixD, e], m, k⟩
theorem ixD_tup {xs : List D} {i : Int} (h0 : 0 ≤ i) (h1 : i < xs.length) : ∃ x, ixD (.tup xs) (.int i) = .ok x ∧ x ∈ xs ∧ xs[i.toNat]? = some x := by
  obtain ⟨x, e, m, k⟩ := atI_lt h0 h1
  exact ⟨x, by simp only [ixD, e], m, k⟩
theorem ixD_str {xs : List Nat} {i : Int} (h0 : 0 ≤ i) (h1 : i < xs.length) : ∃ x, ixD (.str xs) (.int i) = .ok (.str [x]) ∧ x ∈ xs ∧ xs[i.toNat]? = some x := by
  obtain ⟨x, e, m, k⟩ := atI_lt h0 h1
  exact ⟨x, by simp only [ixD, e], m, k⟩
theorem ixD_frz {xs : List Int} {i : Int} (h0 : 0 ≤ i) (h1 : i < xs.length) : ∃ x, ixD (.frz xs) (.int i) = .ok (.int x) ∧ x ∈ xs ∧ xs[i.toNat]? = some x := by
  obtain ⟨x, e, m, k⟩ := atI_lt h0 h1
  exact ⟨x, by simp only [ixD, e], m, k⟩
/-! ### ranges -/
theorem rngD_ok {n : Nat} (h : n ≤ lim) : rngD 0 (n : Int) 1 = .ok ((List.range n).map fun k => .int (k : Nat)) := by
  unfold rngD
  have hl : (lim : Int) = 16777216 := rfl
  rw [if_pos (by omega)]
  have e1 : (((n : Int) - 0 + 1 - 1) / 1).toNat = n := by rw [Int.ediv_one]; omega
  rw [e1]
  congr 1
  refine List.map_congr_left fun k _ => ?_
  simp
theorem rng2_ok {a : Nat} {b : Nat} (ha : a ≤ lim) (h : b ≤ lim) : rngD (a : Int) (b : Int) 1 = .ok ((List.range (b - a)).map fun k => .int ((a + k : Nat) : Int)) := by
  unfold rngD
  have hl2 : lim = 16777216 := rfl
  rw [if_pos (by omega)]
  have e1 : (((b : Int) - a + 1 - 1) / 1).toNat = b - a := by rw [Int.ediv_one]; omega
  rw [e1]
  congr 1
  refine List.map_congr_left fun k _ => ?_
  simp
/-! ### the laws' own draws -/
def mixI (c p m : Int) : Int := (c * 48271 % p) * (c * 48271 % p + 7) % p % m
theorem mixI_pos {c p m : Int} (h : 0 < m) : 0 ≤ mixI c p m := Int.emod_nonneg _ (by omega)
theorem mixI_lt {c p m : Int} (h : 0 < m) : mixI c p m < m := Int.emod_lt_of_pos _ h

/-! ### equations -/
section
variable {C : Cal} {ρ : En} {e a b c : Ex} {es : Exs} {i k f : Nat} {d : D} {op : BOp} {o o' : COp} {s : Sm} {ss tt : Sms} {it : It} {tg : Tg} {own is : List Nat} {w : Bool} {m : Me} {q : Bi} {t : Ty}
@[simp] theorem ev_slot : ev C (.slot i) ρ = getS ρ i := rfl
@[simp] theorem ev_lit : ev C (.lit d) ρ = .ok d := rfl
@[simp] theorem ev_glob : ev C (.glob k) ρ = match C.glob k with
  | some d => .ok d
  | none => .bad := rfl
@[simp] theorem ev_fnv : ev C (.fnv k) ρ = .ok (.fn k) := rfl
@[simp] theorem ev_bin : ev C (.bin op a b) ρ = (ev C a ρ).bnd fun x => (ev C b ρ).bnd fun y => binD op x y := rfl
@[simp] theorem ev_neg : ev C (.neg a) ρ = (ev C a ρ).bnd fun x => negD x := rfl
@[simp] theorem ev_cmp : ev C (.cmp o a b) ρ = (ev C a ρ).bnd fun x => (ev C b ρ).bnd fun y => cmpR o x y := rfl
@[simp] theorem ev_chain : ev C (.chain o o' a b c) ρ = (ev C a ρ).bnd fun x => (ev C b ρ).bnd fun y => chR o o' x y (ev C c ρ) := rfl
@[simp] theorem ev_and : ev C (.and_ a b) ρ = (ev C a ρ).bnd fun x => andR x (ev C b ρ) := rfl
@[simp] theorem ev_or : ev C (.or_ a b) ρ = (ev C a ρ).bnd fun x => orR x (ev C b ρ) := rfl
@[simp] theorem ev_not : ev C (.not_ a) ρ = (ev C a ρ).bnd notD := rfl
@[simp] theorem ev_ife : ev C (.ife c a b) ρ = (ev C c ρ).bnd fun x => ifR x (ev C a ρ) (ev C b ρ) := rfl
@[simp] theorem ev_tup : ev C (.tup es) ρ = (evs C es ρ).bnd fun ds => .ok (.tup ds) := rfl
@[simp] theorem ev_lst : ev C (.lst es) ρ = (evs C es ρ).bnd fun ds => .ok (.lst ds) := rfl
@[simp] theorem ev_ix : ev C (.ix a b) ρ = (ev C a ρ).bnd fun x => (ev C b ρ).bnd fun y => ixD x y := rfl
@[simp] theorem ev_sl : ev C (.sl a b c) ρ = (ev C a ρ).bnd fun x => bndD b (ev C b ρ) fun l => bndD c (ev C c ρ) fun h => slD (fun xs => cut xs l h) x := rfl
@[simp] theorem ev_rev : ev C (.rev a) ρ = (ev C a ρ).bnd fun x => slD (fun xs => xs.reverse) x := rfl
@[simp] theorem ev_call : ev C (.call f es) ρ = (evs C es ρ).bnd fun ds => C.call f ds := rfl
@[simp] theorem ev_bi : ev C (.bi q es) ρ = (evw C es ρ).bnd fun ds => biD q ds := rfl
@[simp] theorem ev_me : ev C (.me m a es) ρ = (ev C a ρ).bnd fun x => meR m x (evw C es ρ) := rfl
@[simp] theorem ev_isi : ev C (.isi a t) ρ = (ev C a ρ).bnd fun x => isiD x t := rfl
@[simp] theorem ev_comp : ev C (.comp e tg it c own) ρ = (evi C true it ρ).bnd fun ds => optL (compL (fun d => bindT tg d (wipeE ρ own)) (fun ρ => ev C c ρ) (fun ρ => ev C e ρ) ds) := rfl
@[simp] theorem evs_nilM : evs C .nil ρ = .ok [] := rfl
@[simp] theorem evs_cons : evs C (.cons e es) ρ = consL (ev C e ρ) (evs C es ρ) := rfl
@[simp] theorem evw_nil : evw C .nil ρ = .ok [] := rfl
@[simp] theorem evw_cons : evw C (.cons e es) ρ = consW (ev C e ρ) (evw C es ρ) := rfl
@[simp] theorem evi_val : evi C w (.val e) ρ = (ev C e ρ).toW w walkD := rfl
@[simp] theorem evi_rng1 : evi C w (.rng1 a) ρ = (ev C a ρ).toW w rngW1 := rfl
@[simp] theorem evi_rng2 : evi C w (.rng2 a b) ρ = (ev C a ρ).toW w fun x => (ev C b ρ).toW w fun y => rngW2 x y := rfl
@[simp] theorem evi_enum : evi C w (.enum e) ρ = ((ev C e ρ).toW w walkD).enum := rfl
@[simp] theorem evi_zip : evi C w (.zip a b) ρ = (ev C a ρ).toW w fun x => (ev C b ρ).toW w fun y => zipW x y := rfl
@[simp] theorem exS_set : exS C (.set i e) ρ = (ev C e ρ).thn ρ fun d => .nx (putS ρ i d) := rfl
@[simp] theorem exS_setM : exS C (.setM i e) ρ = (ev C e ρ).thn ρ fun d => setMF ρ i d := rfl
@[simp] theorem exS_unp : exS C (.unp is e) ρ = (ev C e ρ).thn ρ fun d => unpF ρ is d := rfl
@[simp] theorem exS_app : exS C (.app i e) ρ = appG ρ i (ev C e ρ) := rfl
@[simp] theorem exS_ext : exS C (.ext i e) ρ = extG ρ i (ev C e ρ) := rfl
@[simp] theorem exS_stx : exS C (.stx i a e) ρ = (ev C e ρ).thn ρ fun d => stxG ρ i d (ev C a ρ) := rfl
@[simp] theorem exS_frz : exS C (.frz i) ρ = frzF ρ i := rfl
@[simp] theorem exS_ret : exS C (.ret e) ρ = (ev C e ρ).ret ρ := rfl
@[simp] theorem exS_retM : exS C (.retM i) ρ = retF ρ i := rfl
@[simp] theorem exS_ite : exS C (.ite e ss tt) ρ = (ev C e ρ).thnW ρ fun d => ifF d (exSs C ss ρ) (exSs C tt ρ) := rfl
@[simp] theorem exS_for : exS C (.for_ tg it ss) ρ = (evi C false it ρ).thn ρ fun ds => forL (fun d ρ => (ofO (bindT tg d ρ)).nxt (exSs C ss)) ds ρ := rfl
@[simp] theorem exSs_nil : exSs C .nil ρ = .nx ρ := rfl
@[simp] theorem exSs_cons : exSs C (.cons s ss) ρ = (exS C s ρ).nxt (exSs C ss) := rfl
@[simp] theorem bndD_omit {r : R} {g : Option Int → R} : bndD .omit r g = g none := rfl
@[simp] theorem bndD_lit {r : R} {g : Option Int → R} : bndD (.lit d) r g = bndI r g := rfl
@[simp] theorem bndD_slot {r : R} {g : Option Int → R} : bndD (.slot i) r g = bndI r g := rfl
@[simp] theorem bndD_neg {r : R} {g : Option Int → R} : bndD (.neg a) r g = bndI r g := rfl
@[simp] theorem bndD_bin {r : R} {g : Option Int → R} : bndD (.bin op a b) r g = bndI r g := rfl
@[simp] theorem bndI_int {j : Int} {g : Option Int → R} : bndI (.ok (.int j)) g = g (some j) := rfl
@[simp] theorem bindT_one : bindT (.one i) d ρ = some (putS ρ i d) := rfl
end
/-! ### slots of a frame that is written out -/
section
variable {s : Option Sl} {ρ : En} {i : Nat} {d : D} {xs : List D}
@[simp] theorem getS_z : getS (some (.im d) :: ρ) 0 = .ok d := rfl
@[simp] theorem getS_zm : getS (some (.mu xs) :: ρ) 0 = .okm xs := rfl
@[simp] theorem getS_s : getS (s :: ρ) (i + 1) = getS ρ i := rfl
@[simp] theorem putS_z : putS (s :: ρ) 0 d = some (.im d) :: ρ := rfl
@[simp] theorem putS_s : putS (s :: ρ) (i + 1) d = s :: putS ρ i d := rfl
@[simp] theorem putM_z : putM (s :: ρ) 0 xs = some (.mu xs) :: ρ := rfl
@[simp] theorem putM_s : putM (s :: ρ) (i + 1) xs = s :: putM ρ i xs := rfl
@[simp] theorem wipe_nil : wipeE ρ [] = ρ := rfl
@[simp] theorem wipe_cons {v : Nat} {vs : List Nat} : wipeE ρ (v :: vs) = (wipeE ρ vs).set v none := rfl
@[simp] theorem setMF_lst : setMF ρ i (.lst xs) = .nx (putM ρ i xs) := rfl
theorem appG_at {ys : List D} (h : ρ[i]? = some (some (.mu ys))) (hl : ys.length < lim) : appG ρ i (.ok d) = .nx (putM ρ i (ys ++ [d])) := by
  unfold appG
  rw [h]
  show (if ys.length < lim then Fl.nx (putM ρ i (ys ++ [d])) else .bad) = _
  rw [if_pos hl]
end
@[simp] theorem add_int {i j : Int} : binD .add (.int i) (.int j) = .ok (.int (i + j)) := rfl
@[simp] theorem sub_int {i j : Int} : binD .sub (.int i) (.int j) = .ok (.int (i - j)) := rfl
theorem mul_l {i j : Int} (h : -(2 ^ 64) < i ∧ i < 2 ^ 64) : binD .mul (.int i) (.int j) = .ok (.int (i * j)) := by
  show mulD (.int i) (.int j) = _
  exact if_pos (Or.inl h)
theorem mul_r {i j : Int} (h : -(2 ^ 64) < j ∧ j < 2 ^ 64) : binD .mul (.int i) (.int j) = .ok (.int (i * j)) := by
  show mulD (.int i) (.int j) = _
  exact if_pos (Or.inr h)
theorem mod_int {i j : Int} (h : 0 < j) : binD .mod (.int i) (.int j) = .ok (.int (i % j)) := if_pos h
theorem add_tup {a b : List D} (h : a.length + b.length ≤ lim) : binD .add (.tup a) (.tup b) = .ok (.tup (a ++ b)) := if_pos h
theorem add_lst {a b : List D} (h : a.length + b.length ≤ lim) : binD .add (.lst a) (.lst b) = .ok (.lst (a ++ b)) := if_pos h
theorem add_str {a b : List Nat} (h : a.length + b.length ≤ lim) : binD .add (.str a) (.str b) = .ok (.str (a ++ b)) := if_pos h
theorem mul_str {a : List Nat} {k : Int} (h : fitI k = true) (hl : a.length * k.toNat ≤ lim) : binD .mul (.str a) (.int k) = .ok (.str (rep k.toNat a)) := by
  show mulD (.str a) (.int k) = _
  exact if_pos ⟨h, hl⟩
theorem mul_lst {a : List D} {k : Int} (h : fitI k = true) (hl : a.length * k.toNat ≤ lim) : binD .mul (.lst a) (.int k) = .ok (.lst (rep k.toNat a)) := by
  show mulD (.lst a) (.int k) = _
  exact if_pos ⟨h, hl⟩
theorem rep_two {α : Type} (xs : List α) : rep 2 xs = xs ++ xs := by simp [rep, List.replicate]
theorem rep_lenM {α : Type} (k : Nat) (xs : List α) : (rep k xs).length = k * xs.length := by simp [rep]
theorem mem_rep {α : Type} {k : Nat} {xs : List α} {x : α} (h : x ∈ rep k xs) : x ∈ xs := by
  simp only [rep, List.mem_flatten, List.mem_replicate] at h
  obtain ⟨l, ⟨_, rfl⟩, h2⟩ := h
  exact h2
theorem cut_memM {α : Type} {xs : List α} {lo hi : Option Int} {x : α} (h : x ∈ cut xs lo hi) : x ∈ xs := List.mem_of_mem_drop (List.mem_of_mem_take h)
theorem cut_lenM {α : Type} {xs : List α} {lo hi : Option Int} : (cut xs lo hi).length ≤ xs.length := by
  simp only [cut, List.length_take, List.length_drop]; omega
theorem rngW1_nat {n : Nat} (h : n ≤ lim) : rngW1 (.int (n : Int)) = .ok ((List.range n).map fun k => .int (k : Nat)) := rngD_ok h
theorem enumM_at : ∀ (xs : List D) (k j : Nat), (enumD k xs)[j]? = xs[j]?.map fun x => .tup [.int ((k + j : Nat) : Int), x]
  | [], _, _ => rfl
  | x :: xs, k, 0 => by simp [enumD]
  | x :: xs, k, j + 1 => by
    have e : k + 1 + j = k + (j + 1) := by omega
    simp only [enumD, List.getElem?_cons_succ, enumM_at xs (k + 1) j, e]
theorem enumM_len : ∀ (xs : List D) (k : Nat), (enumD k xs).length = xs.length
  | [], _ => rfl
  | x :: xs, k => by simp [enumD, enumM_len xs]
theorem blsOf_map {p : D → Bool} : ∀ xs : List D, blsOf (xs.map fun x => .bl (p x)) = some (xs.map p)
  | [] => rfl
  | x :: xs => by simp [blsOf, blsOf_map xs]
end Dk

/-! DkS: typed plain functions, and when the evaluator says what they say. No program in sight. -/
namespace Dk
inductive M (α : Type) where
  | ok (a : α)
  | exc (c : Nat)
  | bad
inductive Stp (σ α : Type) where
  | nx (s : σ)
  | rt (a : α)
namespace M
variable {α β σ : Type}
def bnd (m : M α) (f : α → M β) : M β := match m with
  | .ok a => f a
  | .exc c => .exc c
  | .bad => .bad
def grd (p : Prop) [Decidable p] (m : M α) : M α := if p then m else .bad
def tryc (m : M α) (k : α → M β) (h : Nat → M β) : M β := match m with
  | .ok a => k a
  | .exc c => h c
  | .bad => .bad
@[simp] theorem bnd_ok {a : α} {f : α → M β} : (M.ok a).bnd f = f a := Eq.trans rfl rfl
@[simp] theorem bnd_exc {c : Nat} {f : α → M β} : (M.exc c : M α).bnd f = .exc c := Eq.trans rfl rfl
@[simp] theorem bnd_bad {f : α → M β} : (M.bad : M α).bnd f = .bad := Eq.trans rfl rfl
theorem grd_pos {p : Prop} [Decidable p] {m : M α} (h : p) : grd p m = m := if_pos h
@[simp] theorem tryc_ok {a : α} {k : α → M β} {h : Nat → M β} : (M.ok a).tryc k h = k a := Eq.trans rfl rfl
@[simp] theorem tryc_exc {c : Nat} {k : α → M β} {h : Nat → M β} : (M.exc c : M α).tryc k h = h c := Eq.trans rfl rfl
theorem bnd_assoc {γ : Type} {m : M α} {f : α → M β} {g : β → M γ} : (m.bnd f).bnd g = m.bnd fun a => (f a).bnd g := by cases m <;> rfl
end M
def onS {α β σ : Type} (r : Stp σ α) (k : σ → M β) (k2 : α → β) : M β := match r with
  | .nx s => k s
  | .rt a => .ok (k2 a)
@[simp] theorem onS_nx {α β σ : Type} {s : σ} {k : σ → M β} {k2 : α → β} : onS (.nx s) k k2 = k s := Eq.trans rfl rfl
@[simp] theorem onS_rt {α β σ : Type} {a : α} {k : σ → M β} {k2 : α → β} : onS (.rt a) k k2 = .ok (k2 a) := Eq.trans rfl rfl
def fold {α σ : Type} (b : α → σ → M σ) : List α → σ → M σ
  | [], s => .ok s
  | x :: xs, s => (b x s).bnd fun s => fold b xs s
def loop {α σ β : Type} (b : α → σ → M (Stp σ β)) : List α → σ → M (Stp σ β)
  | [], s => .ok (.nx s)
  | x :: xs, s => (b x s).bnd fun r => onS r (fun s => loop b xs s) .rt
def mapM {α β : Type} (f : α → M β) : List α → M (List β)
  | [] => .ok []
  | x :: xs => match f x with
    | .ok y => (mapM f xs).bnd fun ys => .ok (y :: ys)
    | _ => .bad
def cmpM {α β : Type} (c : α → M Bool) (f : α → M β) : List α → M (List β)
  | [] => .ok []
  | x :: xs => match c x with
    | .ok true => (match f x with
      | .ok y => (cmpM c f xs).bnd fun ys => .ok (y :: ys)
      | _ => .bad)
    | .ok false => cmpM c f xs
    | _ => .bad
/-! ### what stands for what -/
def eI (i : Int) : D := .int i
def eB (b : Bool) : D := .bl b
def eS (s : List Nat) : D := .str s
def eN (_ : Unit) : D := .non
def eZ (s : List Int) : D := .frz s
def eD (d : D) : D := d
def eT {α : Type} (e : α → D) (xs : List α) : D := .tup (xs.map e)
def eL {α : Type} (e : α → D) (xs : List α) : D := .lst (xs.map e)
def eP {α β : Type} (e : α → D) (f : β → D) (p : α × β) : D := .tup [e p.1, f p.2]
def eP3 {α β γ : Type} (e : α → D) (f : β → D) (g : γ → D) (p : α × β × γ) : D := .tup [e p.1, f p.2.1, g p.2.2]
def eP4 {α β γ δ : Type} (e : α → D) (f : β → D) (g : γ → D) (h : δ → D) (p : α × β × γ × δ) : D := .tup [e p.1, f p.2.1, g p.2.2.1, h p.2.2.2]
def eO {α : Type} (e : α → D) : Option α → D
  | none => .non
  | some a => e a
def Sim {α : Type} (e : α → D) (r : R) (m : M α) : Prop := match m with
  | .ok a => r = .ok (e a)
  | .exc c => r = .exc c
  | .bad => True
/-- a list still to be changed may stand here -/
def SimW {α : Type} (e : α → D) (r : R) (m : M α) : Prop := match m with
  | .ok a => r = .ok (e a) ∨ ∃ xs, e a = .lst xs ∧ r = .okm xs
  | .exc c => r = .exc c
  | .bad => True
def SimI {α : Type} (e : α → D) (w : Wk) (m : M (List α)) : Prop := match m with
  | .ok xs => w = .ok (xs.map e)
  | .exc c => w = .exc c
  | .bad => True
def SimL {α : Type} (e : α → D) (rs : Rs) (m : M (List α)) : Prop := match m with
  | .ok xs => rs = .ok (xs.map e)
  | .exc c => rs = .exc c
  | .bad => True
section
variable {α β γ δ ε : Type} {e : α → D} {e1 : α → D} {e2 : β → D} {e3 : γ → D} {e4 : δ → D} {e5 : ε → D} {r : R} {m : M α} {m1 : M α} {m2 : M β} {m3 : M γ} {m4 : M δ} {C : Cal} {ρ : En} {a b c x y : Ex} {es : Exs}
theorem Sim.w (h : Sim e r m) : SimW e r m := by
  cases m with
  | ok a => exact .inl h
  | exc c => exact h
  | bad => trivial
theorem SimW.bnd {f : D → R} {k : α → M β} (h : SimW e1 r m) (hk : ∀ a, Sim e2 (f (e1 a)) (k a)) : Sim e2 (r.bnd f) (m.bnd k) := by
  cases m with
  | ok a =>
    rcases h with h | ⟨xs, h1, h⟩
    · rw [h]; exact hk a
    · rw [h]
      have := hk a
      rw [h1] at this
      exact this
  | exc c => replace h : r = .exc c := h; rw [h]; exact rfl
  | bad => exact trivial
theorem Sim.bnd {f : D → R} {k : α → M β} (h : Sim e1 r m) (hk : ∀ a, Sim e2 (f (e1 a)) (k a)) : Sim e2 (r.bnd f) (m.bnd k) := h.w.bnd hk
theorem Sim.dyn (h : Sim e r m) : Sim eD r (m.bnd fun a => .ok (e a)) := by
  cases m with
  | ok a => exact h
  | exc c => exact h
  | bad => exact trivial
theorem Sim.some (h : Sim e r m) : Sim (eO e) r (m.bnd fun a => .ok (some a)) := by
  cases m with
  | ok a => exact h
  | exc c => exact h
  | bad => exact trivial
def getO {α : Type} : Option α → M α
  | none => .bad
  | some a => .ok a
@[simp] theorem getO_some {a : α} : getO (some a) = .ok a := Eq.trans rfl rfl
theorem Sim.get {m : M (Option α)} (h : Sim (eO e) r m) : Sim e r (m.bnd getO) := by
  cases m with
  | ok a => cases a with
    | none => exact trivial
    | some a => exact h
  | exc c => exact h
  | bad => exact trivial
/-- the one of two: a value that is taken for the other kind -/
theorem Sim.cast {m : M α} {f : α → M β} (h : Sim e1 r m) (hf : ∀ a, Sim e2 (.ok (e1 a)) (f a)) : Sim e2 r (m.bnd f) := by
  cases m with
  | ok a => replace h : r = .ok (e1 a) := h; rw [h]; exact hf a
  | exc c => exact h
  | bad => exact trivial
theorem s_slot {i : Nat} {v : α} (e : α → D) (h : getS ρ i = .ok (e v)) : Sim e (ev C (.slot i) ρ) (.ok v) := h
theorem s_slotM {i : Nat} {v : List α} (e : α → D) (h : getS ρ i = .okm (v.map e)) : SimW (eL e) (ev C (.slot i) ρ) (.ok v) := .inr ⟨_, rfl, h⟩
theorem s_lit {d : D} {v : α} (e : α → D) (h : d = e v) : Sim e (ev C (.lit d) ρ) (.ok v) := by subst h; exact rfl
theorem s_none {d : D} (e : α → D) (h : d = .non) : Sim (eO e) (ev C (.lit d) ρ) (.ok none) := by subst h; exact rfl
theorem s_glob {k : Nat} {v : α} (e : α → D) (h : C.glob k = some (e v)) : Sim e (ev C (.glob k) ρ) (.ok v) := by
  show (match C.glob k with
    | some d => R.ok d
    | none => .bad) = _
  rw [h]
theorem s_bin {op : BOp} {o : α → β → M γ} (h1 : SimW e1 (ev C a ρ) m1) (h2 : SimW e2 (ev C b ρ) m2) (ho : ∀ x y, Sim e3 (binD op (e1 x) (e2 y)) (o x y)) : Sim e3 (ev C (.bin op a b) ρ) (m1.bnd fun x => m2.bnd fun y => o x y) := h1.bnd fun x => h2.bnd fun y => ho x y
theorem s_neg {o : α → M β} (h1 : SimW e1 (ev C a ρ) m1) (ho : ∀ x, Sim e2 (negD (e1 x)) (o x)) : Sim e2 (ev C (.neg a) ρ) (m1.bnd o) := h1.bnd ho
theorem s_not {o : α → M β} (h1 : SimW e1 (ev C a ρ) m1) (ho : ∀ x, Sim e2 (notD (e1 x)) (o x)) : Sim e2 (ev C (.not_ a) ρ) (m1.bnd o) := h1.bnd ho
theorem s_cmp {op : COp} {o : α → β → M γ} (h1 : SimW e1 (ev C a ρ) m1) (h2 : SimW e2 (ev C b ρ) m2) (ho : ∀ x y, Sim e3 (cmpR op (e1 x) (e2 y)) (o x y)) : Sim e3 (ev C (.cmp op a b) ρ) (m1.bnd fun x => m2.bnd fun y => o x y) := h1.bnd fun x => h2.bnd fun y => ho x y
theorem s_inR {m1 m2 : M Int} (h1 : SimW eI (ev C a ρ) m1) (h2 : SimW eI (ev C b ρ) m2) : Sim eB (ev C (.inR a b) ρ) (m1.bnd fun x => m2.bnd fun y => .ok (decide (0 ≤ x ∧ x < y))) := h1.bnd fun x => h2.bnd fun y => rfl
theorem s_ix {o : α → β → M γ} (h1 : SimW e1 (ev C a ρ) m1) (h2 : SimW e2 (ev C b ρ) m2) (ho : ∀ x y, Sim e3 (ixD (e1 x) (e2 y)) (o x y)) : Sim e3 (ev C (.ix a b) ρ) (m1.bnd fun x => m2.bnd fun y => o x y) := h1.bnd fun x => h2.bnd fun y => ho x y
theorem s_and {m1 m2 : M Bool} (h1 : SimW eB (ev C a ρ) m1) (h2 : Sim eB (ev C b ρ) m2) : Sim eB (ev C (.and_ a b) ρ) (m1.bnd fun x => if x = true then m2 else .ok false) := h1.bnd fun x => by
  cases x with
  | true => exact h2
  | false => exact rfl
theorem s_or {m1 m2 : M Bool} (h1 : SimW eB (ev C a ρ) m1) (h2 : Sim eB (ev C b ρ) m2) : Sim eB (ev C (.or_ a b) ρ) (m1.bnd fun x => if x = true then .ok true else m2) := h1.bnd fun x => by
  cases x with
  | true => exact rfl
  | false => exact h2
/-- a value's truth, as it is asked -/
def TruF (e : α → D) (t : α → Bool) : Prop := ∀ a, truD (e a) = some (t a)
theorem s_ife {t : α → Bool} {m2 m3 : M β} (ht : TruF e1 t) (h1 : SimW e1 (ev C c ρ) m1) (h2 : Sim e2 (ev C a ρ) m2) (h3 : Sim e2 (ev C b ρ) m3) : Sim e2 (ev C (.ife c a b) ρ) (m1.bnd fun x => if t x = true then m2 else m3) := h1.bnd fun x => by
  unfold ifR
  rw [ht x]
  cases t x with
  | true => exact h2
  | false => exact h3
theorem s_notT {t : α → Bool} (ht : TruF e1 t) (h1 : SimW e1 (ev C a ρ) m1) : Sim eB (ev C (.not_ a) ρ) (m1.bnd fun x => .ok (!t x)) := h1.bnd fun x => by
  show notD (e1 x) = _
  unfold notD
  rw [ht x]; rfl
theorem s_chain {o o' : COp} {p q : Int → Int → Bool} {m1 m2 m3 : M Int} (h1 : SimW eI (ev C a ρ) m1) (h2 : SimW eI (ev C b ρ) m2) (h3 : SimW eI (ev C c ρ) m3) (ho : ∀ x y, cmpR o (.int x) (.int y) = .ok (.bl (p x y))) (ho' : ∀ x y, cmpR o' (.int x) (.int y) = .ok (.bl (q x y))) : Sim eB (ev C (.chain o o' a b c) ρ) (m1.bnd fun x => m2.bnd fun y => if p x y = true then m3.bnd fun z => .ok (q y z) else .ok false) := h1.bnd fun x => h2.bnd fun y => by
  show Sim eB ((cmpR o (.int x) (.int y)).bnd _) _
  rw [ho x y]
  cases p x y with
  | true => exact h3.bnd fun z => ho' y z
  | false => exact rfl
/-! ### tuples, lists, calls -/
theorem l_nil : SimL e (evs C .nil ρ) (.ok []) := rfl
theorem l_cons {ms : M (List α)} (h1 : Sim e (ev C a ρ) m) (h2 : SimL e (evs C es ρ) ms) : SimL e (evs C (.cons a es) ρ) (m.bnd fun x => ms.bnd fun xs => .ok (x :: xs)) := by
  show SimL e (consL (ev C a ρ) (evs C es ρ)) _
  cases m with
  | ok v =>
    replace h1 : ev C a ρ = .ok (e v) := h1
    rw [h1]
    cases ms with
    | ok vs =>
      replace h2 : evs C es ρ = .ok (vs.map e) := h2
      rw [h2]; exact rfl
    | exc k =>
      replace h2 : evs C es ρ = .exc k := h2
      rw [h2]; exact rfl
    | bad => exact trivial
  | exc k =>
    replace h1 : ev C a ρ = .exc k := h1
    rw [h1]; exact rfl
  | bad => exact trivial
theorem s_tupT {ms : M (List α)} (h : SimL e (evs C es ρ) ms) : Sim (eT e) (ev C (.tup es) ρ) ms := by
  show Sim (eT e) ((evs C es ρ).bnd _) _
  cases ms with
  | ok vs => replace h : evs C es ρ = .ok (vs.map e) := h; rw [h]; exact rfl
  | exc k => replace h : evs C es ρ = .exc k := h; rw [h]; exact rfl
  | bad => exact trivial
theorem s_lstL {ms : M (List α)} (h : SimL e (evs C es ρ) ms) : Sim (eL e) (ev C (.lst es) ρ) ms := by
  show Sim (eL e) ((evs C es ρ).bnd _) _
  cases ms with
  | ok vs => replace h : evs C es ρ = .ok (vs.map e) := h; rw [h]; exact rfl
  | exc k => replace h : evs C es ρ = .exc k := h; rw [h]; exact rfl
  | bad => exact trivial
theorem a_cons {f : List D → R} {k : α → M β} (h1 : Sim e1 (ev C a ρ) m1) (hk : ∀ v, Sim e2 ((evs C es ρ).bnd fun ds => f (e1 v :: ds)) (k v)) : Sim e2 ((evs C (.cons a es) ρ).bnd f) (m1.bnd k) := by
  show Sim e2 ((consL (ev C a ρ) (evs C es ρ)).bnd f) _
  cases m1 with
  | ok v =>
    replace h1 : ev C a ρ = .ok (e1 v) := h1
    rw [h1]
    have := hk v
    show Sim e2 ((consL (.ok (e1 v)) (evs C es ρ)).bnd f) (k v)
    cases h : evs C es ρ with
    | ok ds => rw [h] at this; exact this
    | exc c => rw [h] at this; exact this
    | bad => rw [h] at this; exact this
  | exc c =>
    replace h1 : ev C a ρ = .exc c := h1
    rw [h1]; exact rfl
  | bad => exact trivial
theorem a_nil {f : List D → R} {m : M β} (h : Sim e2 (f []) m) : Sim e2 ((evs C .nil ρ).bnd f) m := h
theorem w_cons {f : List D → R} {k : α → M β} (h1 : SimW e1 (ev C a ρ) m1) (hk : ∀ v, Sim e2 ((evw C es ρ).bnd fun ds => f (e1 v :: ds)) (k v)) : Sim e2 ((evw C (.cons a es) ρ).bnd f) (m1.bnd k) := by
  show Sim e2 ((consW (ev C a ρ) (evw C es ρ)).bnd f) _
  cases m1 with
  | ok v =>
    have := hk v
    rcases h1 with h1 | ⟨xs, h2, h1⟩
    · rw [h1]
      show Sim e2 ((consW (.ok (e1 v)) (evw C es ρ)).bnd f) (k v)
      cases h : evw C es ρ with
      | ok ds => rw [h] at this; exact this
      | exc c => rw [h] at this; exact this
      | bad => rw [h] at this; exact this
    · rw [h1]
      rw [h2] at this
      show Sim e2 ((consW (.okm xs) (evw C es ρ)).bnd f) (k v)
      cases h : evw C es ρ with
      | ok ds => rw [h] at this; exact this
      | exc c => rw [h] at this; exact this
      | bad => rw [h] at this; exact this
  | exc c =>
    replace h1 : ev C a ρ = .exc c := h1
    rw [h1]; exact rfl
  | bad => exact trivial
theorem w_nil {f : List D → R} {m : M β} (h : Sim e2 (f []) m) : Sim e2 ((evw C .nil ρ).bnd f) m := h
theorem s_call {f : Nat} {m : M β} (h : Sim e2 ((evs C es ρ).bnd fun ds => C.call f ds) m) : Sim e2 (ev C (.call f es) ρ) m := h
theorem s_callS {i k : Nat} {m : M β} (hg : getS ρ i = .ok (.fn k)) (h : Sim e2 ((evs C es ρ).bnd fun ds => C.call k ds) m) : Sim e2 (ev C (.callS i es) ρ) m := by
  show Sim e2 ((getS ρ i).bndS fun g => callSR C g (evs C es ρ)) m
  rw [hg]; exact h
theorem s_bi {q : Bi} {m : M β} (h : Sim e2 ((evw C es ρ).bnd fun ds => biD q ds) m) : Sim e2 (ev C (.bi q es) ρ) m := h
theorem s_tupP {m : M β} (h : Sim e2 ((evs C es ρ).bnd fun ds => .ok (.tup ds)) m) : Sim e2 (ev C (.tup es) ρ) m := h
theorem s_me {q : Me} {k : α → M β} (h1 : SimW e1 (ev C a ρ) m1) (hk : ∀ v, meK q (e1 v) = true) (h : ∀ v, Sim e2 ((evw C es ρ).bnd fun ds => meD q (e1 v) ds) (k v)) : Sim e2 (ev C (.me q a es) ρ) (m1.bnd k) := h1.bnd fun v => by
  show Sim e2 (meR q (e1 v) (evw C es ρ)) (k v)
  unfold meR
  rw [if_pos (hk v)]
  exact h v
theorem s_isi {t : Ty} {v : Bool} (h1 : SimW e1 (ev C a ρ) m1) (h : ∀ x, isiD (e1 x) t = .ok (.bl v)) : Sim eB (ev C (.isi a t) ρ) (m1.bnd fun _ => .ok v) := h1.bnd fun x => h x
theorem s_rev {o : α → M β} (h1 : SimW e1 (ev C a ρ) m1) (h : ∀ x, Sim e2 (slD (fun xs => xs.reverse) (e1 x)) (o x)) : Sim e2 (ev C (.rev a) ρ) (m1.bnd o) := h1.bnd h
/-- a slice's bound -/
def SimO (x : Ex) (r : R) (m : M (Option Int)) : Prop := ∀ {β : Type} (e : β → D) (f : Option Int → R) (k : Option Int → M β), (∀ o, Sim e (f o) (k o)) → Sim e (bndD x r f) (m.bnd k)
theorem b_omit : SimO .omit (ev C .omit ρ) (.ok none) := fun e f k h => h none
theorem b_int {m : M Int} (hx : isO x = false) (h : Sim eI (ev C x ρ) m) : SimO x (ev C x ρ) (m.bnd fun i => .ok (some i)) := fun e f k hk => by
  unfold bndD
  rw [hx]
  show Sim e (bndI (ev C x ρ) f) _
  cases m with
  | ok i => replace h : ev C x ρ = .ok (.int i) := h; rw [h]; exact hk (some i)
  | exc c => replace h : ev C x ρ = .exc c := h; rw [h]; exact rfl
  | bad => exact trivial
theorem s_sl {ml mh : M (Option Int)} {o : α → Option Int → Option Int → M γ} (h1 : SimW e1 (ev C a ρ) m1) (hl : SimO b (ev C b ρ) ml) (hh : SimO c (ev C c ρ) mh) (ho : ∀ x l h, Sim e3 (slD (fun xs => cut xs l h) (e1 x)) (o x l h)) : Sim e3 (ev C (.sl a b c) ρ) (m1.bnd fun x => ml.bnd fun l => mh.bnd fun h => o x l h) := h1.bnd fun x => hl _ _ _ fun l => hh _ _ _ fun h => ho x l h
theorem s_sl2 {ml mh : M (Option Int)} {o : α → Option Int → Option Int → M γ} (h1 : SimW e1 (ev C a ρ) m1) (hl : SimO b (ev C b ρ) ml) (hh : SimO c (ev C c ρ) mh) (ho : ∀ x l h, Sim e3 (slT (fun xs => half (cut xs l h)) (e1 x)) (o x l h)) : Sim e3 (ev C (.sl2 a b c) ρ) (m1.bnd fun x => ml.bnd fun l => mh.bnd fun h => o x l h) := h1.bnd fun x => hl _ _ _ fun l => hh _ _ _ fun h => ho x l h
/-! ### what is walked -/
theorem i_gen {w : Bool} {F : D → Wk} {k : α → M (List β)} (h : Sim e1 r m1) (hk : ∀ a, SimI e2 (F (e1 a)) (k a)) : SimI e2 (r.toW w F) (m1.bnd k) := by
  cases m1 with
  | ok a => replace h : r = .ok (e1 a) := h; rw [h]; exact hk a
  | exc c => replace h : r = .exc c := h; rw [h]; exact rfl
  | bad => exact trivial
theorem i_genW {F : D → Wk} {k : α → M (List β)} (h : SimW e1 r m1) (hk : ∀ a, SimI e2 (F (e1 a)) (k a)) : SimI e2 (r.toW true F) (m1.bnd k) := by
  cases m1 with
  | ok a =>
    rcases h with h | ⟨xs, h2, h⟩
    · rw [h]; exact hk a
    · rw [h]
      have := hk a
      rw [h2] at this
      exact this
  | exc c => replace h : r = .exc c := h; rw [h]; exact rfl
  | bad => exact trivial
end
/-! ### operations, typed -/
def chars (s : List Nat) : List (List Nat) := s.map fun c => [c]
def enumF {α : Type} : Nat → List α → List (Int × α)
  | _, [] => []
  | k, x :: xs => ((k : Int), x) :: enumF (k + 1) xs
def rngL (lo hi c : Int) : List Int := (List.range ((hi - lo + c - 1) / c).toNat).map fun k => lo + (k : Nat) * c
@[irreducible] def rngM (lo hi c : Int) : M (List Int) := .grd (0 < c ∧ c < 1073741824 ∧ -(2 ^ 61) ≤ lo ∧ lo < 2 ^ 61 ∧ -(2 ^ 61) ≤ hi ∧ hi < 2 ^ 61 ∧ hi - lo ≤ lim) (.ok (rngL lo hi c))
def ixM {α : Type} (xs : List α) (i : Int) : M α := match atI xs i with
  | some a => .ok a
  | none => .bad
def ixSM (xs : List Nat) (i : Int) : M (List Nat) := match atI xs i with
  | some a => .ok [a]
  | none => .bad
def catM {α : Type} (a b : List α) : M (List α) := .grd (a.length + b.length ≤ lim) (.ok (a ++ b))
def mulIM (i j : Int) : M Int := .grd ((-(2 ^ 64) < i ∧ i < 2 ^ 64) ∨ (-(2 ^ 64) < j ∧ j < 2 ^ 64)) (.ok (i * j))
@[irreducible] def mulSM {α : Type} (a : List α) (k : Int) : M (List α) := .grd (fitI k = true ∧ a.length * k.toNat ≤ lim) (.ok (rep k.toNat a))
def mulTM {α : Type} (a : List α) (k : Int) : M (List α) := .grd (a.isEmpty = false ∧ 2 ≤ k ∧ k ≤ 1000 ∧ a.length ≤ 1000) (.ok (rep k.toNat a))
def fdivM (i j : Int) : M Int := .grd (0 < j ∧ j < 1073741824) (.ok (i / j))
def modM (i j : Int) : M Int := .grd (0 < j) (.ok (i % j))
def powM (i j : Int) : M Int := .grd (0 ≤ j ∧ j ≤ 1000000 ∧ i.natAbs < 2 ^ 64) (.ok (i ^ j.toNat))
def inSM (a b : List Nat) : M Bool := match a with
  | [c] => .ok (b.contains c)
  | _ => .bad
def joinM (z : List Nat) (xs : List (List Nat)) : M (List Nat) := .grd ((xs.map List.length).sum + z.length * xs.length ≤ lim) (.ok (joinS z xs))
def idxM (z a : List Nat) : M Int := match a with
  | [c] => .grd (z.contains c = true) (.ok (z.idxOf c))
  | _ => .bad
def intSM : List Nat → M Int
  | c :: r => .grd (r.length < 600) (match digs 0 (c :: r) with
    | some n => .ok n
    | none => .bad)
  | [] => .bad
def countM (s a : List Nat) : M Int := match a with
  | [c] => .ok (s.count c)
  | _ => .bad
def replM (s a y : List Nat) : M (List Nat) := match a, y with
  | [c], [z] => .grd (c = 63 ∧ s.length ≤ 1000 ∧ z ≠ 63) (.ok (s.map fun x => if x = 63 then z else x))
  | _, _ => .bad
/-- equality is the evaluator's -/
structure EqF {α : Type} [DecidableEq α] (n : Nat) (e : α → D) : Prop where
  dt : ∀ a, datN n (e a) = true
  eq : ∀ a b, eqD (e a) (e b) = decide (a = b)
/-- never None -/
def NnF {α : Type} (e : α → D) : Prop := ∀ a, eqD .non (e a) = false ∧ eqD (e a) .non = false
section
variable {α β γ δ : Type} {e : α → D} {f : β → D} {g : γ → D} {h : δ → D}
theorem eqf_I : EqF 0 eI := ⟨fun _ => by simp [eI, datN], fun a b => by simp [eI, eqD]; by_cases h : a = b <;> simp [h]⟩
theorem eqf_S : EqF 0 eS := ⟨fun _ => by simp [eS, datN], fun a b => by simp [eS, eqD]; by_cases h : a = b <;> simp [h]⟩
theorem eqf_B : EqF 0 eB := ⟨fun _ => by simp [eB, datN], fun a b => by cases a <;> cases b <;> rfl⟩
theorem eqf_N : EqF 0 eN := ⟨fun _ => by simp [eN, datN], fun a b => by rfl⟩
theorem eqL_map [DecidableEq α] {n : Nat} (q : EqF n e) : ∀ xs ys : List α, eqL (xs.map e) (ys.map e) = decide (xs = ys)
  | [], [] => by simp [eqL]
  | [], _ :: _ => by simp [eqL]
  | _ :: _, [] => by simp [eqL]
  | x :: xs, y :: ys => by
    show (eqD (e x) (e y) && eqL (xs.map e) (ys.map e)) = _
    rw [q.eq, eqL_map q xs ys]
    by_cases h1 : x = y <;> by_cases h2 : xs = ys <;> simp [h1, h2]
theorem datL_map [DecidableEq α] {n : Nat} (q : EqF n e) (xs : List α) : datL n (xs.map e) = true := datL_iff.2 fun x hx => by
  obtain ⟨a, _, rfl⟩ := List.mem_map.1 hx
  exact q.dt a
theorem eqf_T [DecidableEq α] {n : Nat} (q : EqF n e) : EqF (n + 1) (eT e) := ⟨fun a => datL_map q a, fun a b => eqL_map q a b⟩
theorem eqf_L [DecidableEq α] {n : Nat} (q : EqF n e) : EqF (n + 1) (eL e) := ⟨fun a => datL_map q a, fun a b => eqL_map q a b⟩
theorem eqf_up [DecidableEq α] {n k : Nat} (q : EqF n e) (hk : n ≤ k) : EqF k e := ⟨fun a => datN_up _ _ _ hk (q.dt a), q.eq⟩
theorem eqf_P [DecidableEq α] [DecidableEq β] {n k : Nat} (q : EqF n e) (p : EqF k f) : EqF (n + k + 1) (eP e f) := ⟨fun a => by
  show (datN (n + k) (e a.1) && (datN (n + k) (f a.2) && true)) = true
  rw [datN_up _ _ _ (by omega) (q.dt a.1), datN_up _ _ _ (by omega) (p.dt a.2)]; rfl, fun a b => by
  show (eqD (e a.1) (e b.1) && (eqD (f a.2) (f b.2) && true)) = _
  rw [q.eq, p.eq]
  obtain ⟨a1, a2⟩ := a
  obtain ⟨b1, b2⟩ := b
  by_cases h1 : a1 = b1 <;> by_cases h2 : a2 = b2 <;> simp [h1, h2]⟩
theorem eqf_P3 [DecidableEq α] [DecidableEq β] [DecidableEq γ] {n k l : Nat} (q : EqF n e) (p : EqF k f) (s : EqF l g) : EqF (n + k + l + 1) (eP3 e f g) := ⟨fun a => by
  show (datN (n + k + l) (e a.1) && (datN (n + k + l) (f a.2.1) && (datN (n + k + l) (g a.2.2) && true))) = true
  rw [datN_up _ _ _ (by omega) (q.dt a.1), datN_up _ _ _ (by omega) (p.dt a.2.1), datN_up _ _ _ (by omega) (s.dt a.2.2)]; rfl, fun a b => by
  show (eqD (e a.1) (e b.1) && (eqD (f a.2.1) (f b.2.1) && (eqD (g a.2.2) (g b.2.2) && true))) = _
  rw [q.eq, p.eq, s.eq]
  obtain ⟨a1, a2, a3⟩ := a
  obtain ⟨b1, b2, b3⟩ := b
  by_cases h1 : a1 = b1 <;> by_cases h2 : a2 = b2 <;> by_cases h3 : a3 = b3 <;> simp [h1, h2, h3]⟩
theorem eqf_P4 [DecidableEq α] [DecidableEq β] [DecidableEq γ] [DecidableEq δ] {n k l o : Nat} (q : EqF n e) (p : EqF k f) (s : EqF l g) (t : EqF o h) : EqF (n + k + l + o + 1) (eP4 e f g h) := ⟨fun a => by
  show (datN (n + k + l + o) (e a.1) && (datN (n + k + l + o) (f a.2.1) && (datN (n + k + l + o) (g a.2.2.1) && (datN (n + k + l + o) (h a.2.2.2) && true)))) = true
  rw [datN_up _ _ _ (by omega) (q.dt a.1), datN_up _ _ _ (by omega) (p.dt a.2.1), datN_up _ _ _ (by omega) (s.dt a.2.2.1), datN_up _ _ _ (by omega) (t.dt a.2.2.2)]; rfl, fun a b => by
  show (eqD (e a.1) (e b.1) && (eqD (f a.2.1) (f b.2.1) && (eqD (g a.2.2.1) (g b.2.2.1) && (eqD (h a.2.2.2) (h b.2.2.2) && true)))) = _
  rw [q.eq, p.eq, s.eq, t.eq]
  obtain ⟨a1, a2, a3, a4⟩ := a
  obtain ⟨b1, b2, b3, b4⟩ := b
  by_cases h1 : a1 = b1 <;> by_cases h2 : a2 = b2 <;> by_cases h3 : a3 = b3 <;> by_cases h4 : a4 = b4 <;> simp [h1, h2, h3, h4]⟩
theorem eqf_O [DecidableEq α] {n : Nat} (q : EqF n e) (w : NnF e) : EqF n (eO e) := ⟨fun a => by
  cases a with
  | none => simp [eO, datN]
  | some a => exact q.dt a, fun a b => by
  cases a with
  | none => cases b with
    | none => rfl
    | some b => simp only [eO]; rw [(w b).1]; simp
  | some a => cases b with
    | none => simp only [eO]; rw [(w a).2]; simp
    | some b => simp only [eO]; rw [q.eq]; simp⟩
theorem nn_I : NnF eI := fun _ => ⟨rfl, rfl⟩
theorem nn_S : NnF eS := fun _ => ⟨rfl, rfl⟩
theorem nn_B : NnF eB := fun _ => ⟨rfl, rfl⟩
theorem nn_T : NnF (eT e) := fun _ => ⟨rfl, rfl⟩
theorem nn_L : NnF (eL e) := fun _ => ⟨rfl, rfl⟩
theorem nn_P : NnF (eP e f) := fun _ => ⟨rfl, rfl⟩
theorem nn_P3 : NnF (eP3 e f g) := fun _ => ⟨rfl, rfl⟩
theorem nn_P4 : NnF (eP4 e f g h) := fun _ => ⟨rfl, rfl⟩
theorem if_grd {p : Prop} [Decidable p] {r : R} {a : α} (h : r = if p then .ok (e a) else .bad) : Sim e r (.grd p (.ok a)) := by
  unfold M.grd
  by_cases q : p
  · rw [if_pos q] at h ⊢; exact h
  · rw [if_neg q]; exact trivial
theorem o_eq [DecidableEq α] {n : Nat} (q : EqF n e) (hn' : Nat.ble n 59 = true) (x y : α) : Sim eB (cmpR .eq (e x) (e y)) (.ok (decide (x = y))) := by
  have hn : n ≤ 59 := Nat.le_of_ble_eq_true hn'
  show (if dat (e x) = true ∧ dat (e y) = true then R.ok (.bl (eqD (e x) (e y))) else .bad) = _
  rw [if_pos ⟨dat_of (q.dt x) (by omega), dat_of (q.dt y) (by omega)⟩, q.eq]; rfl
theorem o_ne [DecidableEq α] {n : Nat} (q : EqF n e) (hn' : Nat.ble n 59 = true) (x y : α) : Sim eB (cmpR .ne (e x) (e y)) (.ok (!decide (x = y))) := by
  have hn : n ≤ 59 := Nat.le_of_ble_eq_true hn'
  show (if dat (e x) = true ∧ dat (e y) = true then R.ok (.bl (!eqD (e x) (e y))) else .bad) = _
  rw [if_pos ⟨dat_of (q.dt x) (by omega), dat_of (q.dt y) (by omega)⟩, q.eq]; rfl
def eqDM (x y : D) : M Bool := .grd (dat x = true ∧ dat y = true) (.ok (eqD x y))
def neDM (x y : D) : M Bool := .grd (dat x = true ∧ dat y = true) (.ok (!eqD x y))
theorem o_eqD (x y : D) : Sim eB (cmpR .eq (eD x) (eD y)) (eqDM x y) := if_grd rfl
theorem o_neD (x y : D) : Sim eB (cmpR .ne (eD x) (eD y)) (neDM x y) := if_grd rfl
theorem anyEq_map [DecidableEq α] {n : Nat} (q : EqF n e) (x : α) : ∀ xs : List α, anyEq (e x) (xs.map e) = decide (x ∈ xs)
  | [] => by simp [anyEq]
  | y :: xs => by
    show (eqD (e y) (e x) || anyEq (e x) (xs.map e)) = _
    rw [q.eq, anyEq_map q x xs]
    by_cases h1 : y = x
    · simp [h1]
    · have : ¬ x = y := fun h => h1 h.symm
      by_cases h2 : x ∈ xs <;> simp [h1, h2, this]
theorem datL_mapD [DecidableEq α] {n : Nat} (q : EqF n e) (hn : n ≤ 59) (xs : List α) : datL 59 (xs.map e) = true := datL_of (datL_map q xs) hn
def memB {α : Type} [DecidableEq α] (x : α) (xs : List α) : Bool := decide (x ∈ xs)
/-- not of texts that are one sign: those are in a text -/
theorem o_inT [DecidableEq α] {n : Nat} (q : EqF n e) (hn' : Nat.ble n 59 = true) (x : α) (xs : List α) : Sim eB (inD (e x) (eT e xs)) (.ok (memB x xs)) := by
  have hn : n ≤ 59 := Nat.le_of_ble_eq_true hn'
  have h : inD (e x) (.tup (xs.map e)) = if dat (e x) = true ∧ datL 59 (xs.map e) = true then .ok (.bl (anyEq (e x) (xs.map e))) else .bad := by
    cases e x with
    | str s => rcases s with _ | ⟨a, _ | ⟨b, r⟩⟩ <;> rfl
    | _ => rfl
  show inD (e x) (.tup (xs.map e)) = _
  rw [h, if_pos ⟨dat_of (q.dt x) (by omega), datL_mapD q hn xs⟩, anyEq_map q]; rfl
theorem o_inL [DecidableEq α] {n : Nat} (q : EqF n e) (hn' : Nat.ble n 59 = true) (x : α) (xs : List α) : Sim eB (inD (e x) (eL e xs)) (.ok (memB x xs)) := by
  have hn : n ≤ 59 := Nat.le_of_ble_eq_true hn'
  have h : inD (e x) (.lst (xs.map e)) = if dat (e x) = true ∧ datL 59 (xs.map e) = true then .ok (.bl (anyEq (e x) (xs.map e))) else .bad := by
    cases e x with
    | str s => rcases s with _ | ⟨a, _ | ⟨b, r⟩⟩ <;> rfl
    | _ => rfl
  show inD (e x) (.lst (xs.map e)) = _
  rw [h, if_pos ⟨dat_of (q.dt x) (by omega), datL_mapD q hn xs⟩, anyEq_map q]; rfl
theorem o_inS (x y : List Nat) : Sim eB (inD (eS x) (eS y)) (inSM x y) := by
  match x with
  | [] => exact trivial
  | [c] => exact rfl
  | _ :: _ :: _ => exact trivial
theorem o_notin {r : R} {m : M Bool} (h : Sim eB r m) : Sim eB (notR r) (m.bnd fun b => .ok (!b)) := by
  cases m with
  | ok b => replace h : r = .ok (.bl b) := h; rw [h]; exact rfl
  | exc c => replace h : r = .exc c := h; rw [h]; exact rfl
  | bad => exact trivial
theorem o_isN (w : ∀ a, isD (e a) .non = .ok (.bl false)) (x : Option α) : Sim eB (cmpR .is (eO e x) .non) (.ok x.isNone) := by
  cases x with
  | none => exact rfl
  | some a => exact w a
theorem o_isntN (w : ∀ a, isD (e a) .non = .ok (.bl false)) (x : Option α) : Sim eB (cmpR .isnt (eO e x) .non) (.ok x.isSome) := by
  cases x with
  | none => exact rfl
  | some a => show notR (isD (e a) .non) = _; rw [w a]; rfl
theorem o_isB (x y : Bool) : Sim eB (cmpR .is (eB x) (eB y)) (.ok (x == y)) := rfl
theorem o_isntB (x y : Bool) : Sim eB (cmpR .isnt (eB x) (eB y)) (.ok (!(x == y))) := rfl
theorem o_ltI (x y : Int) : Sim eB (cmpR .lt (eI x) (eI y)) (.ok (decide (x < y))) := rfl
theorem o_leI (x y : Int) : Sim eB (cmpR .le (eI x) (eI y)) (.ok (decide (x ≤ y))) := rfl
theorem o_gtI (x y : Int) : Sim eB (cmpR .gt (eI x) (eI y)) (.ok (decide (y < x))) := rfl
theorem o_geI (x y : Int) : Sim eB (cmpR .ge (eI x) (eI y)) (.ok (decide (y ≤ x))) := rfl
theorem o_addI (x y : Int) : Sim eI (binD .add (eI x) (eI y)) (.ok (x + y)) := rfl
theorem o_subI (x y : Int) : Sim eI (binD .sub (eI x) (eI y)) (.ok (x - y)) := rfl
theorem o_negI (x : Int) : Sim eI (negD (eI x)) (.ok (-x)) := rfl
theorem o_mulI (x y : Int) : Sim eI (binD .mul (eI x) (eI y)) (mulIM x y) := if_grd rfl
theorem o_fdiv (x y : Int) : Sim eI (binD .fdiv (eI x) (eI y)) (fdivM x y) := if_grd rfl
theorem o_mod (x y : Int) : Sim eI (binD .mod (eI x) (eI y)) (modM x y) := if_grd rfl
theorem o_pow (x y : Int) : Sim eI (binD .pow (eI x) (eI y)) (powM x y) := if_grd rfl
theorem o_addS (x y : List Nat) : Sim eS (binD .add (eS x) (eS y)) (catM x y) := if_grd rfl
theorem o_addT (x y : List α) : Sim (eT e) (binD .add (eT e x) (eT e y)) (catM x y) := by
  unfold catM
  refine if_grd ?_
  show (if (x.map e).length + (y.map e).length ≤ lim then R.ok (.tup (x.map e ++ y.map e)) else .bad) = _
  rw [List.length_map, List.length_map, ← List.map_append]; rfl
theorem o_addL (x y : List α) : Sim (eL e) (binD .add (eL e x) (eL e y)) (catM x y) := by
  unfold catM
  refine if_grd ?_
  show (if (x.map e).length + (y.map e).length ≤ lim then R.ok (.lst (x.map e ++ y.map e)) else .bad) = _
  rw [List.length_map, List.length_map, ← List.map_append]; rfl
theorem rep_map (k : Nat) (xs : List α) (q : α → β) : rep k (xs.map q) = (rep k xs).map q := by
  unfold rep
  rw [List.map_flatten, List.map_replicate]
theorem o_mulS (x : List Nat) (k : Int) : Sim eS (binD .mul (eS x) (eI k)) (mulSM x k) := by unfold mulSM; exact if_grd rfl
theorem o_mulL (x : List α) (k : Int) : Sim (eL e) (binD .mul (eL e x) (eI k)) (mulSM x k) := by
  unfold mulSM
  refine if_grd ?_
  show (if fitI k = true ∧ (x.map e).length * k.toNat ≤ lim then R.ok (.lst (rep k.toNat (x.map e))) else .bad) = _
  rw [List.length_map, rep_map]; rfl
theorem o_mulT (x : List α) (k : Int) : Sim (eT e) (binD .mul (eT e x) (eI k)) (mulTM x k) := by
  unfold mulTM
  refine if_grd ?_
  show (if (x.map e).isEmpty = false ∧ 2 ≤ k ∧ k ≤ 1000 ∧ (x.map e).length ≤ 1000 then R.ok (.tup (rep k.toNat (x.map e))) else .bad) = _
  rw [List.length_map, rep_map, List.isEmpty_map]; rfl
theorem atI_map (q : α → β) (xs : List α) (i : Int) : atI (xs.map q) i = (atI xs i).map q := by
  unfold atI
  rw [List.length_map]
  cases ixN xs.length i with
  | none => rfl
  | some j => simp
theorem o_ixT (x : List α) (i : Int) : Sim e (ixD (eT e x) (eI i)) (ixM x i) := by
  show Sim e (match atI (x.map e) i with
    | some d => R.ok d
    | none => .bad) _
  rw [atI_map]
  unfold ixM
  cases atI x i with
  | none => exact trivial
  | some a => exact rfl
theorem o_ixL (x : List α) (i : Int) : Sim e (ixD (eL e x) (eI i)) (ixM x i) := by
  show Sim e (match atI (x.map e) i with
    | some d => R.ok d
    | none => .bad) _
  rw [atI_map]
  unfold ixM
  cases atI x i with
  | none => exact trivial
  | some a => exact rfl
theorem o_ixZ (x : List Int) (i : Int) : Sim eI (ixD (eZ x) (eI i)) (ixM x i) := by
  show Sim eI (match atI x i with
    | some d => R.ok (.int d)
    | none => .bad) _
  unfold ixM
  cases atI x i with
  | none => exact trivial
  | some a => exact rfl
theorem o_ixS (x : List Nat) (i : Int) : Sim eS (ixD (eS x) (eI i)) (ixSM x i) := by
  show Sim eS (match atI x i with
    | some d => R.ok (.str [d])
    | none => .bad) _
  unfold ixSM
  cases atI x i with
  | none => exact trivial
  | some a => exact rfl
theorem o_lenS (x : List Nat) : Sim eI (biD .len [eS x]) (.ok (x.length : Int)) := rfl
theorem o_lenT (x : List α) : Sim eI (biD .len [eT e x]) (.ok (x.length : Int)) := by
  show R.ok (.int ((x.map e).length : Nat)) = _
  rw [List.length_map]; rfl
theorem o_lenL (x : List α) : Sim eI (biD .len [eL e x]) (.ok (x.length : Int)) := by
  show R.ok (.int ((x.map e).length : Nat)) = _
  rw [List.length_map]; rfl
theorem o_lenZ (x : List Int) : Sim eI (biD .len [eZ x]) (.ok (x.length : Int)) := rfl
theorem intsOf_map : ∀ x : List Int, intsOf (x.map eI) = some x
  | [] => rfl
  | i :: x => by
    show (intsOf (x.map eI)).map (i :: ·) = _
    rw [intsOf_map x]; rfl
theorem blsOf_mapB : ∀ x : List Bool, blsOf (x.map eB) = some x
  | [] => rfl
  | i :: x => by
    show (blsOf (x.map eB)).map (i :: ·) = _
    rw [blsOf_mapB x]; rfl
theorem strsOf_map : ∀ x : List (List Nat), strsOf (x.map eS) = some x
  | [] => rfl
  | i :: x => by
    show (strsOf (x.map eS)).map (i :: ·) = _
    rw [strsOf_map x]; rfl
theorem o_sumT (x : List Int) : Sim eI (biD .sum [eT eI x]) (.ok x.sum) := by
  show (match intsOf (x.map eI) with
    | some ns => R.ok (.int ns.sum)
    | none => .bad) = _
  rw [intsOf_map]; rfl
theorem o_sumL (x : List Int) : Sim eI (biD .sum [eL eI x]) (.ok x.sum) := by
  show (match intsOf (x.map eI) with
    | some ns => R.ok (.int ns.sum)
    | none => .bad) = _
  rw [intsOf_map]; rfl
theorem o_allL (x : List Bool) : Sim eB (biD .all [eL eB x]) (.ok (x.all id)) := by
  show (match blsOf (x.map eB) with
    | some bs => R.ok (.bl (bs.all id))
    | none => .bad) = _
  rw [blsOf_mapB]; rfl
theorem o_tupL (x : List α) : Sim (eT e) (biD .tuple [eL e x]) (.ok x) := rfl
theorem o_tupT (x : List α) : Sim (eT e) (biD .tuple [eT e x]) (.ok x) := rfl
theorem o_lstT (x : List α) : Sim (eL e) (biD .list [eT e x]) (.ok x) := rfl
theorem o_lstL (x : List α) : Sim (eL e) (biD .list [eL e x]) (.ok x) := rfl
theorem o_lstS (x : List Nat) : Sim (eL eS) (biD .list [eS x]) (.ok (chars x)) := by
  show R.ok (.lst (x.map fun c => .str [c])) = R.ok (.lst ((chars x).map eS))
  unfold chars
  rw [List.map_map]; rfl
theorem o_intS (x : List Nat) : Sim eI (biD .int [eS x]) (intSM x) := by
  match x with
  | [] => exact trivial
  | c :: r =>
    show Sim eI (if r.length < 600 then (match digs 0 (c :: r) with
      | some n => R.ok (.int n)
      | none => .bad) else .bad) _
    unfold intSM M.grd
    by_cases h : r.length < 600
    · simp only [h, if_true]
      cases digs 0 (c :: r) with
      | none => exact trivial
      | some n => exact rfl
    · simp only [h, if_false]; exact trivial
theorem o_intB (x : Bool) : Sim eI (biD .int [eB x]) (.ok (if x then 1 else 0)) := rfl
theorem o_intI (x : Int) : Sim eI (biD .int [eI x]) (.ok x) := rfl
theorem o_abs (x : Int) : Sim eI (biD .abs [eI x]) (.ok (if x < 0 then -x else x)) := rfl
theorem o_min2 (x y : Int) : Sim eI (biD .min [eI x, eI y]) (.ok (if y < x then y else x)) := rfl
theorem o_max2 (x y : Int) : Sim eI (biD .max [eI x, eI y]) (.ok (if y > x then y else x)) := rfl
theorem o_joinL (z : List Nat) (x : List (List Nat)) : Sim eS (meD .join (eS z) [eL eS x]) (joinM z x) := by
  unfold joinM
  refine if_grd ?_
  show (match strsOf (x.map eS) with
    | some xs => if (xs.map List.length).sum + z.length * xs.length ≤ lim then R.ok (.str (joinS z xs)) else .bad
    | none => .bad) = _
  rw [strsOf_map]; rfl
theorem o_joinT (z : List Nat) (x : List (List Nat)) : Sim eS (meD .join (eS z) [eT eS x]) (joinM z x) := by
  unfold joinM
  refine if_grd ?_
  show (match strsOf (x.map eS) with
    | some xs => if (xs.map List.length).sum + z.length * xs.length ≤ lim then R.ok (.str (joinS z xs)) else .bad
    | none => .bad) = _
  rw [strsOf_map]; rfl
theorem o_index (z a : List Nat) : Sim eI (meD .index (eS z) [eS a]) (idxM z a) := by
  match a with
  | [] => exact trivial
  | [c] => exact if_grd rfl
  | _ :: _ :: _ => exact trivial
theorem o_count (z a : List Nat) : Sim eI (meD .count (eS z) [eS a]) (countM z a) := by
  match a with
  | [] => exact trivial
  | [c] => exact rfl
  | _ :: _ :: _ => exact trivial
theorem o_repl (z a y : List Nat) : Sim eS (meD .replace (eS z) [eS a, eS y]) (replM z a y) := by
  match a, y with
  | [], _ => exact trivial
  | [_], [] => exact trivial
  | [_], _ :: _ :: _ => exact trivial
  | _ :: _ :: _, _ => exact trivial
  | [c], [w] =>
    show Sim eS (if c = 63 then (if z.length ≤ 1000 ∧ w ≠ 63 then R.ok (.str (z.map fun x => if x = 63 then w else x)) else .bad) else .bad) (M.grd (c = 63 ∧ z.length ≤ 1000 ∧ w ≠ 63) (.ok (z.map fun x => if x = 63 then w else x)))
    unfold M.grd
    by_cases h : c = 63 ∧ z.length ≤ 1000 ∧ w ≠ 63
    · rw [if_pos h, if_pos h.1, if_pos h.2]; exact rfl
    · rw [if_neg h]; exact trivial
theorem o_strip (s z : List Nat) : Sim eS (meD .strip (eS s) [eS z]) (.ok (rstripS z (lstripS z s))) := rfl
theorem o_lstrip (s z : List Nat) : Sim eS (meD .lstrip (eS s) [eS z]) (.ok (lstripS z s)) := rfl
theorem o_rstrip (s z : List Nat) : Sim eS (meD .rstrip (eS s) [eS z]) (.ok (rstripS z s)) := rfl
theorem mk_S (q : Me) (v : List Nat) (h : meS q = true := by rfl) : meK q (eS v) = true := by cases q <;> first | rfl | cases h
theorem cut_map (q : α → β) (xs : List α) (l h : Option Int) : cut (xs.map q) l h = (cut xs l h).map q := by
  unfold cut
  rw [List.length_map, List.map_take, List.map_drop]
theorem half_map (q : α → β) : ∀ xs : List α, half (xs.map q) = (half xs).map q
  | [] => rfl
  | [x] => rfl
  | x :: y :: r => by
    show q x :: half (r.map q) = q x :: (half r).map q
    rw [half_map q r]
theorem o_slS (x : List Nat) (l h : Option Int) : Sim eS (slD (fun xs => cut xs l h) (eS x)) (.ok (cut x l h)) := rfl
theorem o_slT (x : List α) (l h : Option Int) : Sim (eT e) (slD (fun xs => cut xs l h) (eT e x)) (.ok (cut x l h)) := by
  show R.ok (.tup (cut (x.map e) l h)) = _
  rw [cut_map]; rfl
theorem o_slL (x : List α) (l h : Option Int) : Sim (eL e) (slD (fun xs => cut xs l h) (eL e x)) (.ok (cut x l h)) := by
  show R.ok (.lst (cut (x.map e) l h)) = _
  rw [cut_map]; rfl
theorem o_sl2T (x : List α) (l h : Option Int) : Sim (eT e) (slT (fun xs => half (cut xs l h)) (eT e x)) (.ok (half (cut x l h))) := by
  show R.ok (.tup (half (cut (x.map e) l h))) = _
  rw [cut_map, half_map]; rfl
theorem o_revS (x : List Nat) : Sim eS (slD (fun xs => xs.reverse) (eS x)) (.ok x.reverse) := rfl
theorem o_revT (x : List α) : Sim (eT e) (slD (fun xs => xs.reverse) (eT e x)) (.ok x.reverse) := by
  show R.ok (.tup (x.map e).reverse) = _
  rw [← List.map_reverse]; rfl
theorem o_revL (x : List α) : Sim (eL e) (slD (fun xs => xs.reverse) (eL e x)) (.ok x.reverse) := by
  show R.ok (.lst (x.map e).reverse) = _
  rw [← List.map_reverse]; rfl
theorem t_B : TruF eB fun b => b := fun _ => rfl
theorem t_I : TruF eI fun i => i != 0 := fun _ => rfl
theorem t_S : TruF eS fun s => !s.isEmpty := fun _ => rfl
theorem t_T : TruF (eT e) fun s => !s.isEmpty := fun s => by
  show some (!(s.map e).isEmpty) = _
  rw [List.isEmpty_map]
theorem t_L : TruF (eL e) fun s => !s.isEmpty := fun s => by
  show some (!(s.map e).isEmpty) = _
  rw [List.isEmpty_map]
/-! ### what is walked -/
theorem wk_T (x : List α) : SimI e (walkD (eT e x)) (.ok x) := rfl
theorem wk_L (x : List α) : SimI e (walkD (eL e x)) (.ok x) := rfl
theorem wk_S (x : List Nat) : SimI eS (walkD (eS x)) (.ok (chars x)) := by
  show Wk.ok (x.map fun c => .str [c]) = Wk.ok ((chars x).map eS)
  unfold chars
  rw [List.map_map]; rfl
theorem enumD_map (q : α → D) : ∀ (xs : List α) (k : Nat), enumD k (xs.map q) = (enumF k xs).map (eP eI q)
  | [], _ => rfl
  | x :: xs, k => by
    show Dk.D.tup [.int k, q x] :: enumD (k + 1) (xs.map q) = _
    rw [enumD_map q xs]
    rfl
theorem i_enum {w : Wk} {m : M (List α)} (hw : SimI e w m) : SimI (eP eI e) w.enum (m.bnd fun xs => .ok (enumF 0 xs)) := by
  cases m with
  | ok xs => replace hw : w = .ok (xs.map e) := hw; rw [hw]; show Wk.ok (enumD 0 (xs.map e)) = _; rw [enumD_map]
  | exc c => replace hw : w = .exc c := hw; rw [hw]; exact rfl
  | bad => exact trivial
theorem zipD_map (q : α → D) (p : β → D) : ∀ (xs : List α) (ys : List β), zipD (xs.map q) (ys.map p) = (xs.zip ys).map (eP q p)
  | [], _ => by rfl
  | _ :: _, [] => by rfl
  | x :: xs, y :: ys => by
    show Dk.D.tup [q x, p y] :: zipD (xs.map q) (ys.map p) = _
    rw [zipD_map q p xs ys]
    rfl
theorem z_TT (x : List α) (y : List β) : SimI (eP e f) (zipW (eT e x) (eT f y)) (.ok (x.zip y)) := by
  show Wk.ok (zipD (x.map e) (y.map f)) = _
  rw [zipD_map]
theorem z_LL (x : List α) (y : List β) : SimI (eP e f) (zipW (eL e x) (eL f y)) (.ok (x.zip y)) := by
  show Wk.ok (zipD (x.map e) (y.map f)) = _
  rw [zipD_map]
theorem z_SS (x y : List Nat) : SimI (eP eS eS) (zipW (eS x) (eS y)) (.ok ((chars x).zip (chars y))) := by
  have q : ∀ s : List Nat, (s.map fun c => D.str [c]) = (chars s).map eS := fun s => by unfold chars; rw [List.map_map]; rfl
  show Wk.ok (zipD (x.map fun c => D.str [c]) (y.map fun c => D.str [c])) = _
  rw [q, q, zipD_map]
theorem rng_ok (lo hi c : Int) : SimI eI (rngD lo hi c) (rngM lo hi c) := by
  unfold rngM M.grd rngD
  by_cases h : 0 < c ∧ c < 1073741824 ∧ -(2 ^ 61) ≤ lo ∧ lo < 2 ^ 61 ∧ -(2 ^ 61) ≤ hi ∧ hi < 2 ^ 61 ∧ hi - lo ≤ lim
  · rw [if_pos h, if_pos h]
    show Wk.ok _ = Wk.ok _
    unfold rngL
    rw [List.map_map]; rfl
  · rw [if_neg h, if_neg h]; exact trivial
theorem i_rng1 {C : Cal} {ρ : En} {a : Ex} {w : Bool} {m : M Int} (h : Sim eI (ev C a ρ) m) : SimI eI (evi C w (.rng1 a) ρ) (m.bnd fun i => rngM 0 i 1) := i_gen h fun i => rng_ok 0 i 1
theorem i_rng2 {C : Cal} {ρ : En} {a b : Ex} {w : Bool} {m m2 : M Int} (h : Sim eI (ev C a ρ) m) (h2 : Sim eI (ev C b ρ) m2) : SimI eI (evi C w (.rng2 a b) ρ) (m.bnd fun i => m2.bnd fun j => rngM i j 1) := i_gen h fun i => i_gen h2 fun j => rng_ok i j 1
theorem i_rng3 {C : Cal} {ρ : En} {a b c : Ex} {w : Bool} {m m2 m3 : M Int} (h : Sim eI (ev C a ρ) m) (h2 : Sim eI (ev C b ρ) m2) (h3 : Sim eI (ev C c ρ) m3) : SimI eI (evi C w (.rng3 a b c) ρ) (m.bnd fun i => m2.bnd fun j => m3.bnd fun k => rngM i j k) := i_gen h fun i => i_gen h2 fun j => i_gen h3 fun k => rng_ok i j k
theorem i_val {C : Cal} {ρ : En} {a : Ex} {w : Bool} {m : M α} {k : α → M (List β)} (h : Sim e (ev C a ρ) m) (hk : ∀ x, SimI f (walkD (e x)) (k x)) : SimI f (evi C w (.val a) ρ) (m.bnd k) := i_gen h hk
theorem i_valW {C : Cal} {ρ : En} {a : Ex} {m : M α} {k : α → M (List β)} (h : SimW e (ev C a ρ) m) (hk : ∀ x, SimI f (walkD (e x)) (k x)) : SimI f (evi C true (.val a) ρ) (m.bnd k) := i_genW h hk
theorem i_en {C : Cal} {ρ : En} {a : Ex} {w : Bool} {m : M α} {k : α → M (List β)} (h : Sim e (ev C a ρ) m) (hk : ∀ x, SimI f (walkD (e x)) (k x)) : SimI (eP eI f) (evi C w (.enum a) ρ) ((m.bnd k).bnd fun xs => .ok (enumF 0 xs)) := i_enum (i_gen h hk)
theorem i_enW {C : Cal} {ρ : En} {a : Ex} {m : M α} {k : α → M (List β)} (h : SimW e (ev C a ρ) m) (hk : ∀ x, SimI f (walkD (e x)) (k x)) : SimI (eP eI f) (evi C true (.enum a) ρ) ((m.bnd k).bnd fun xs => .ok (enumF 0 xs)) := i_enum (i_genW h hk)
theorem i_zip {C : Cal} {ρ : En} {a b : Ex} {w : Bool} {m : M α} {m2 : M β} {k : α → β → M (List γ)} (h : Sim e (ev C a ρ) m) (h2 : Sim f (ev C b ρ) m2) (hk : ∀ x y, SimI g (zipW (e x) (f y)) (k x y)) : SimI g (evi C w (.zip a b) ρ) (m.bnd fun x => m2.bnd fun y => k x y) := i_gen h fun x => i_gen h2 fun y => hk x y
theorem s_rngL {C : Cal} {ρ : En} {it : It} {m : M (List α)} (h : SimI e (evi C true it ρ) m) : Sim (eL e) (ev C (.rngL it) ρ) m := by
  show Sim (eL e) ((evi C true it ρ).bnd fun ds => .ok (.lst ds)) m
  cases m with
  | ok xs => replace h : evi C true it ρ = .ok (xs.map e) := h; rw [h]; exact rfl
  | exc c => replace h : evi C true it ρ = .exc c := h; rw [h]; exact rfl
  | bad => exact trivial
/-! ### comprehensions -/
theorem s_comp {C : Cal} {ρ : En} {it : It} {tg : Tg} {own : List Nat} {cond elt : Ex} {mi : M (List α)} {c : α → M Bool} {q : α → M β} {ρ' : α → En} (hi : SimI e (evi C true it ρ) mi) (hb : ∀ x, bindT tg (e x) (wipeE ρ own) = some (ρ' x)) (hc : ∀ x, Sim eB (ev C cond (ρ' x)) (c x)) (he : ∀ x, Sim f (ev C elt (ρ' x)) (q x)) : Sim (eL f) (ev C (.comp elt tg it cond own) ρ) (mi.bnd fun xs => cmpM c q xs) := by
  have key : ∀ xs : List α, match cmpM c q xs with
    | .ok ys => compL (fun d => bindT tg d (wipeE ρ own)) (fun ρ => ev C cond ρ) (fun ρ => ev C elt ρ) (xs.map e) = some (ys.map f)
    | _ => True := fun xs => by
    induction xs with
    | nil => exact rfl
    | cons x xs ih =>
      show match cmpM c q (x :: xs) with
        | .ok ys => compL (fun d => bindT tg d (wipeE ρ own)) (fun ρ => ev C cond ρ) (fun ρ => ev C elt ρ) (e x :: xs.map e) = some (ys.map f)
        | _ => True
      have h1 := hc x
      have h2 := he x
      unfold cmpM compL
      simp only [hb x]
      cases hcx : c x with
      | ok t =>
        rw [hcx] at h1
        replace h1 : ev C cond (ρ' x) = .ok (.bl t) := h1
        simp only [h1, truD_bl]
        cases t with
        | true =>
          cases hqx : q x with
          | ok y =>
            rw [hqx] at h2
            replace h2 : ev C elt (ρ' x) = .ok (f y) := h2
            simp only [h2]
            cases hm : cmpM c q xs with
            | ok ys => rw [hm] at ih; simp only [M.bnd_ok]; rw [ih]; rfl
            | exc k => trivial
            | bad => trivial
          | exc k => trivial
          | bad => trivial
        | false => exact ih
      | exc k => trivial
      | bad => trivial
  show Sim (eL f) ((evi C true it ρ).bnd fun ds => optL (compL (fun d => bindT tg d (wipeE ρ own)) (fun ρ => ev C cond ρ) (fun ρ => ev C elt ρ) ds)) _
  cases mi with
  | ok xs =>
    replace hi : evi C true it ρ = .ok (xs.map e) := hi
    rw [hi]
    have k := key xs
    show Sim (eL f) (optL (compL _ _ _ (xs.map e))) (cmpM c q xs)
    have noexc : ∀ (xs : List α) k, cmpM c q xs ≠ .exc k := fun xs => by
      induction xs with
      | nil => intro k h; cases h
      | cons x xs ih =>
        intro k h
        unfold cmpM at h
        cases hcx : c x with
        | ok t =>
          rw [hcx] at h
          cases t with
          | true =>
            cases hqx : q x with
            | ok y =>
              simp only [hqx] at h
              cases hm : cmpM c q xs with
              | ok ys => rw [hm] at h; cases h
              | exc k2 => exact ih k2 hm
              | bad => rw [hm] at h; cases h
            | exc k2 => simp only [hqx] at h; cases h
            | bad => simp only [hqx] at h; cases h
          | false => exact ih k h
        | exc k2 => rw [hcx] at h; cases h
        | bad => rw [hcx] at h; cases h
    cases hm : cmpM c q xs with
    | ok ys => rw [hm] at k; rw [k]; exact rfl
    | exc k2 => exact (noexc xs k2 hm).elim
    | bad => exact trivial
  | exc k => replace hi : evi C true it ρ = .exc k := hi; rw [hi]; exact rfl
  | bad => exact trivial
theorem cmpM_true {q : α → M β} : ∀ xs : List α, cmpM (fun _ => .ok true) q xs = mapM q xs
  | [] => rfl
  | x :: xs => by
    unfold cmpM mapM
    cases q x with
    | ok y => simp only; rw [cmpM_true xs]
    | exc k => rfl
    | bad => rfl
theorem s_comp0 {C : Cal} {ρ : En} {it : It} {tg : Tg} {own : List Nat} {elt : Ex} {mi : M (List α)} {q : α → M β} {ρ' : α → En} (hi : SimI e (evi C true it ρ) mi) (hb : ∀ x, bindT tg (e x) (wipeE ρ own) = some (ρ' x)) (he : ∀ x, Sim f (ev C elt (ρ' x)) (q x)) : Sim (eL f) (ev C (.comp elt tg it (.lit (.bl true)) own) ρ) (mi.bnd fun xs => mapM q xs) := by
  have h := s_comp (cond := .lit (.bl true)) (c := fun _ => .ok true) hi hb (fun x => s_lit eB rfl) he
  have e : (mi.bnd fun xs => cmpM (fun _ => M.ok true) q xs) = mi.bnd fun xs => mapM q xs := by
    congr 1
    funext xs
    exact cmpM_true xs
  rw [e] at h
  exact h
end
end Dk

/-! DkR: statements, typed. -/
namespace Dk
/-- how statements end, against what a plain function says -/
def FQ {β : Type} (P : Fl → β → Prop) (E : En → Prop) (fl : Fl) (m : M β) : Prop := match m with
  | .ok b => P fl b
  | .exc c => ∃ ρ, fl = .exc c ρ ∧ E ρ
  | .bad => True
def PF {α : Type} (e : α → D) (fl : Fl) (a : α) : Prop := fl = .rt (e a)
def PU (fl : Fl) (_ : Unit) : Prop := ∃ ρ, fl = .nx ρ
def PN {σ J : Type} (F : σ → J → En) (fl : Fl) (s : σ) : Prop := ∃ j, fl = .nx (F s j)
def PL {σ J α : Type} (F : σ → J → En) (e : α → D) (fl : Fl) (r : Stp σ α) : Prop := match r with
  | .nx s => ∃ j, fl = .nx (F s j)
  | .rt a => fl = .rt (e a)
def TT (_ : En) : Prop := True
section
variable {α β γ σ J : Type} {e : α → D} {e1 : α → D} {e2 : β → D} {P : Fl → β → Prop} {E : En → Prop} {C : Cal} {ρ : En} {i : Nat} {x y : Ex} {ss tt b : Sms} {m : M α} {K : α → M β} {F : σ → J → En}
theorem FQ.thn {r : R} {f : D → Fl} (h : Sim e r m) (hE : E ρ) (k : ∀ a, FQ P E (f (e a)) (K a)) : FQ P E (r.thn ρ f) (m.bnd K) := by
  cases m with
  | ok a => replace h : r = .ok (e a) := h; rw [h]; exact k a
  | exc c => replace h : r = .exc c := h; rw [h]; exact ⟨ρ, rfl, hE⟩
  | bad => exact trivial
theorem FQ.thnW {r : R} {f : D → Fl} (h : SimW e r m) (hE : E ρ) (k : ∀ a, FQ P E (f (e a)) (K a)) : FQ P E (r.thnW ρ f) (m.bnd K) := by
  cases m with
  | ok a =>
    rcases h with h | ⟨xs, h2, h⟩
    · rw [h]; exact k a
    · rw [h]
      have := k a
      rw [h2] at this
      exact this
  | exc c => replace h : r = .exc c := h; rw [h]; exact ⟨ρ, rfl, hE⟩
  | bad => exact trivial
theorem thn_nxt {r : R} {f : D → Fl} {g : En → Fl} : (r.thn ρ f).nxt g = r.thn ρ fun d => (f d).nxt g := by cases r <;> rfl
theorem thnW_nxt {r : R} {f : D → Fl} {g : En → Fl} : (r.thnW ρ f).nxt g = r.thnW ρ fun d => (f d).nxt g := by cases r <;> rfl
theorem rst_nxt {r : Rs} {f : List D → Fl} {g : En → Fl} : (r.thn ρ f).nxt g = r.thn ρ fun d => (f d).nxt g := by cases r <;> rfl
theorem wkt_nxt {r : Wk} {f : List D → Fl} {g : En → Fl} : (r.thn ρ f).nxt g = r.thn ρ fun d => (f d).nxt g := by cases r <;> rfl
theorem nxt_nxt {r : Fl} {f g : En → Fl} : (r.nxt f).nxt g = r.nxt fun ρ => (f ρ).nxt g := by cases r <;> rfl
theorem st_set (hE : E ρ) (h : Sim e (ev C x ρ) m) (k : ∀ a, FQ P E (exSs C ss (putS ρ i (e a))) (K a)) : FQ P E (exSs C (.cons (.set i x) ss) ρ) (m.bnd K) := by
  show FQ P E (((ev C x ρ).thn ρ fun d => .nx (putS ρ i d)).nxt (exSs C ss)) _
  rw [thn_nxt]
  exact FQ.thn h hE k
theorem st_setM {m : M (List α)} {K : List α → M β} (hE : E ρ) (h : Sim (eL e) (ev C x ρ) m) (k : ∀ a : List α, FQ P E (exSs C ss (putM ρ i (a.map e))) (K a)) : FQ P E (exSs C (.cons (.setM i x) ss) ρ) (m.bnd K) := by
  show FQ P E (((ev C x ρ).thn ρ fun d => setMF ρ i d).nxt (exSs C ss)) _
  rw [thn_nxt]
  exact FQ.thn h hE k
theorem st_unp {is : List Nat} {ρ' : α → En} (hE : E ρ) (h : Sim e (ev C x ρ) m) (hu : ∀ a, unpF ρ is (e a) = .nx (ρ' a)) (k : ∀ a, FQ P E (exSs C ss (ρ' a)) (K a)) : FQ P E (exSs C (.cons (.unp is x) ss) ρ) (m.bnd K) := by
  show FQ P E (((ev C x ρ).thn ρ fun d => unpF ρ is d).nxt (exSs C ss)) _
  rw [thn_nxt]
  exact FQ.thn h hE fun a => by rw [hu a]; exact k a
theorem p_cons {es : Exs} {f : List D → Fl} (hE : E ρ) (h : Sim e (ev C x ρ) m) (k : ∀ a, FQ P E ((evs C es ρ).thn ρ fun ds => f (e a :: ds)) (K a)) : FQ P E ((evs C (.cons x es) ρ).thn ρ f) (m.bnd K) := by
  show FQ P E ((consL (ev C x ρ) (evs C es ρ)).thn ρ f) _
  cases m with
  | ok a =>
    replace h : ev C x ρ = .ok (e a) := h
    have := k a
    rw [h]
    show FQ P E ((consL (.ok (e a)) (evs C es ρ)).thn ρ f) (K a)
    cases hh : evs C es ρ with
    | ok ds => rw [hh] at this; exact this
    | exc c => rw [hh] at this; exact this
    | bad => rw [hh] at this; exact this
  | exc c => replace h : ev C x ρ = .exc c := h; rw [h]; exact ⟨ρ, rfl, hE⟩
  | bad => exact trivial
theorem p_nil {f : List D → Fl} {m : M β} (h : FQ P E (f []) m) : FQ P E ((evs C .nil ρ).thn ρ f) m := h
theorem st_par {is : List (Nat × Bool)} {es : Exs} {m : M β} (h : FQ P E ((evs C es ρ).thn ρ fun ds => (ofO (parL is ds ρ)).nxt (exSs C ss)) m) : FQ P E (exSs C (.cons (.par is es) ss) ρ) m := by
  show FQ P E (((evs C es ρ).thn ρ fun ds => ofO (parL is ds ρ)).nxt (exSs C ss)) _
  rw [rst_nxt]
  exact h
theorem par_go {o : Option En} {ρ' : En} {m : M β} (h : o = some ρ') (k : FQ P E (exSs C ss ρ') m) : FQ P E ((ofO o).nxt (exSs C ss)) m := by rw [h]; exact k
theorem st_app {xs : List α} {K' : List α → M β} (hs : ρ[i]? = some (some (.mu (xs.map e)))) (hE : E ρ) (h : Sim e (ev C x ρ) m) (k : ∀ ys : List α, FQ P E (exSs C ss (putM ρ i (ys.map e))) (K' ys)) : FQ P E (exSs C (.cons (.app i x) ss) ρ) (m.bnd fun a => .grd (xs.length < lim) (K' (xs ++ [a]))) := by
  show FQ P E ((appG ρ i (ev C x ρ)).nxt (exSs C ss)) _
  unfold appG
  rw [hs]
  show FQ P E (((ev C x ρ).thn ρ fun d => if (xs.map e).length < lim then .nx (putM ρ i (xs.map e ++ [d])) else .bad).nxt (exSs C ss)) _
  rw [thn_nxt]
  refine FQ.thn h hE fun a => ?_
  rw [List.length_map]
  unfold M.grd
  by_cases hl : xs.length < lim
  · rw [if_pos hl, if_pos hl]
    have := k (xs ++ [a])
    rw [List.map_append] at this
    exact this
  · rw [if_neg hl, if_neg hl]; exact trivial
theorem st_ext {xs : List α} {m : M (List α)} {K' : List α → M β} (hs : ρ[i]? = some (some (.mu (xs.map e)))) (hE : E ρ) (h : Sim (eL e) (ev C x ρ) m) (k : ∀ ys : List α, FQ P E (exSs C ss (putM ρ i (ys.map e))) (K' ys)) : FQ P E (exSs C (.cons (.ext i x) ss) ρ) (m.bnd fun a => .grd (xs.length + a.length ≤ lim) (K' (xs ++ a))) := by
  show FQ P E ((extG ρ i (ev C x ρ)).nxt (exSs C ss)) _
  unfold extG
  rw [hs]
  show FQ P E (((ev C x ρ).thn ρ fun d => (match d with
    | .lst ys => if (xs.map e).length + ys.length ≤ lim then .nx (putM ρ i (xs.map e ++ ys)) else .bad
    | _ => .bad)).nxt (exSs C ss)) _
  rw [thn_nxt]
  refine FQ.thn h hE fun a => ?_
  show FQ P E ((if (xs.map e).length + (a.map e).length ≤ lim then Fl.nx (putM ρ i (xs.map e ++ a.map e)) else .bad).nxt (exSs C ss)) _
  rw [List.length_map, List.length_map]
  unfold M.grd
  by_cases hl : xs.length + a.length ≤ lim
  · rw [if_pos hl, if_pos hl]
    have := k (xs ++ a)
    rw [List.map_append] at this
    exact this
  · rw [if_neg hl, if_neg hl]; exact trivial
def setXM {α : Type} (xs : List α) (k : Int) (a : α) : M (List α) := match ixN xs.length k with
  | some j => .ok (xs.set j a)
  | none => .bad
theorem st_stx {xs : List α} {mj : M Int} {K : List α → M β} (hs : ρ[i]? = some (some (.mu (xs.map e)))) (hE : E ρ) (h : Sim e (ev C x ρ) m) (hj : Sim eI (ev C y ρ) mj) (k : ∀ ys : List α, FQ P E (exSs C ss (putM ρ i (ys.map e))) (K ys)) : FQ P E (exSs C (.cons (.stx i y x) ss) ρ) (m.bnd fun a => mj.bnd fun j => (setXM xs j a).bnd K) := by
  show FQ P E (((ev C x ρ).thn ρ fun d => stxG ρ i d (ev C y ρ)).nxt (exSs C ss)) _
  rw [thn_nxt]
  refine FQ.thn h hE fun a => ?_
  unfold stxG
  rw [hs]
  show FQ P E (((ev C y ρ).thn ρ _).nxt (exSs C ss)) _
  rw [thn_nxt]
  refine FQ.thn hj hE fun j => ?_
  show FQ P E (Fl.nxt (match ixN (xs.map e).length j with
    | some q => .nx (putM ρ i ((xs.map e).set q (e a)))
    | none => .bad) (exSs C ss)) _
  rw [List.length_map]
  unfold setXM
  cases hi : ixN xs.length j with
  | none => exact trivial
  | some q =>
    have := k (xs.set q a)
    rw [List.map_set] at this
    exact this
theorem st_frz {xs : List α} {m : M β} (hs : ρ[i]? = some (some (.mu (xs.map e)))) (k : FQ P E (exSs C ss (putS ρ i (eL e xs))) m) : FQ P E (exSs C (.cons (.frz i) ss) ρ) m := by
  show FQ P E ((frzF ρ i).nxt (exSs C ss)) _
  unfold frzF
  rw [hs]
  exact k
/-- return from a def's body -/
theorem st_ret (hE : E ρ) (h : Sim e (ev C x ρ) m) : FQ (PF e) E (exSs C (.cons (.ret x) ss) ρ) m := by
  show FQ (PF e) E (((ev C x ρ).ret ρ).nxt (exSs C ss)) _
  cases m with
  | ok a => replace h : ev C x ρ = .ok (e a) := h; rw [h]; exact rfl
  | exc c => replace h : ev C x ρ = .exc c := h; rw [h]; exact ⟨ρ, rfl, hE⟩
  | bad => exact trivial
/-- return from a loop's body -/
theorem st_retL (hE : E ρ) (h : Sim e (ev C x ρ) m) : FQ (PL F e) E (exSs C (.cons (.ret x) ss) ρ) (m.bnd fun a => .ok (.rt a)) := by
  show FQ (PL F e) E (((ev C x ρ).ret ρ).nxt (exSs C ss)) _
  cases m with
  | ok a => replace h : ev C x ρ = .ok (e a) := h; rw [h]; exact rfl
  | exc c => replace h : ev C x ρ = .exc c := h; rw [h]; exact ⟨ρ, rfl, hE⟩
  | bad => exact trivial
theorem st_retM {xs : List α} (hs : ρ[i]? = some (some (.mu (xs.map e)))) : FQ (PF (eL e)) E (exSs C (.cons (.retM i) ss) ρ) (.ok xs) := by
  show (retF ρ i).nxt (exSs C ss) = _
  unfold retF
  rw [hs]; rfl
theorem st_retMD {xs : List α} (hs : ρ[i]? = some (some (.mu (xs.map e)))) : FQ (PF eD) E (exSs C (.cons (.retM i) ss) ρ) (.ok (eL e xs)) := by
  show (retF ρ i).nxt (exSs C ss) = _
  unfold retF
  rw [hs]; rfl
theorem st_exp {K : M β} (hE : E ρ) (h : SimW e (ev C x ρ) m) (k : FQ P E (exSs C ss ρ) K) : FQ P E (exSs C (.cons (.exp x) ss) ρ) (m.bnd fun _ => K) := by
  show FQ P E (((ev C x ρ).thnW ρ fun _ => .nx ρ).nxt (exSs C ss)) _
  rw [thnW_nxt]
  exact FQ.thnW h hE fun a => k
theorem st_rai {c : Nat} (hE : E ρ) : FQ P E (exSs C (.cons (.rai c) ss) ρ) (.exc c) := ⟨ρ, rfl, hE⟩
theorem st_pass {m : M β} (k : FQ P E (exSs C ss ρ) m) : FQ P E (exSs C (.cons .pass ss) ρ) m := k
def apS : Sms → Sms → Sms
  | .nil, t => t
  | .cons s ss, t => .cons s (apS ss t)
theorem exSs_ap : ∀ (a t : Sms) (ρ : En), exSs C (apS a t) ρ = (exSs C a ρ).nxt (exSs C t)
  | .nil, t, ρ => rfl
  | .cons s ss, t, ρ => by
    show (exS C s ρ).nxt (exSs C (apS ss t)) = ((exS C s ρ).nxt (exSs C ss)).nxt (exSs C t)
    rw [nxt_nxt]
    congr 1
    funext ρ'
    exact exSs_ap ss t ρ'
theorem st_ite {t : α → Bool} {m1 m2 : M β} (ht : TruF e t) (hE : E ρ) (h : SimW e (ev C x ρ) m) (h1 : FQ P E (exSs C (apS tt ss) ρ) m1) (h2 : FQ P E (exSs C (apS b ss) ρ) m2) : FQ P E (exSs C (.cons (.ite x tt b) ss) ρ) (m.bnd fun a => if t a = true then m1 else m2) := by
  show FQ P E (((ev C x ρ).thnW ρ fun d => ifF d (exSs C tt ρ) (exSs C b ρ)).nxt (exSs C ss)) _
  rw [thnW_nxt]
  refine FQ.thnW h hE fun a => ?_
  unfold ifF
  rw [ht a]
  cases t a with
  | true => rw [exSs_ap] at h1; exact h1
  | false => rw [exSs_ap] at h2; exact h2
theorem st_end {s : σ} (j : J) (h : ρ = F s j) : FQ (PN F) E (exSs C .nil ρ) (.ok s) := ⟨j, by rw [h]; rfl⟩
theorem st_endL {s : σ} (j : J) (h : ρ = F s j) : FQ (PL F e) E (exSs C .nil ρ) (.ok (.nx s)) := ⟨j, by rw [h]; rfl⟩
theorem st_endU : FQ PU E (exSs C .nil ρ) (.ok ()) := ⟨ρ, rfl⟩
theorem forL_fold {f : D → En → Fl} {B : α → σ → M σ} (hb : ∀ a s j, FQ (PN F) TT (f (e a) (F s j)) (B a s)) : ∀ (xs : List α) (s : σ) (j : J), FQ (PN F) TT (forL f (xs.map e) (F s j)) (fold B xs s)
  | [], s, j => ⟨j, rfl⟩
  | a :: xs, s, j => by
    have h := hb a s j
    show FQ (PN F) TT ((f (e a) (F s j)).nxt fun ρ' => forL f (xs.map e) ρ') ((B a s).bnd fun s => fold B xs s)
    cases hB : B a s with
    | ok s' =>
      rw [hB] at h
      obtain ⟨j', h⟩ := h
      rw [h]
      exact forL_fold hb xs s' j'
    | exc c =>
      rw [hB] at h
      obtain ⟨ρ', h, _⟩ := h
      rw [h]
      exact ⟨ρ', rfl, trivial⟩
    | bad => exact trivial
theorem forL_loop {f : D → En → Fl} {B : α → σ → M (Stp σ γ)} {er : γ → D} (hb : ∀ a s j, FQ (PL F er) TT (f (e a) (F s j)) (B a s)) : ∀ (xs : List α) (s : σ) (j : J), FQ (PL F er) TT (forL f (xs.map e) (F s j)) (loop B xs s)
  | [], s, j => ⟨j, rfl⟩
  | a :: xs, s, j => by
    have h := hb a s j
    show FQ (PL F er) TT ((f (e a) (F s j)).nxt fun ρ' => forL f (xs.map e) ρ') ((B a s).bnd fun r => onS r (fun s => loop B xs s) .rt)
    cases hB : B a s with
    | ok r =>
      rw [hB] at h
      cases r with
      | nx s' =>
        obtain ⟨j', h⟩ := h
        rw [h]
        exact forL_loop hb xs s' j'
      | rt v =>
        replace h : f (e a) (F s j) = .rt (er v) := h
        rw [h]
        exact rfl
    | exc c =>
      rw [hB] at h
      obtain ⟨ρ', h, _⟩ := h
      rw [h]
      exact ⟨ρ', rfl, trivial⟩
    | bad => exact trivial
theorem st_for {tg : Tg} {it : It} {mi : M (List α)} {B : α → σ → M σ} {K : σ → M β} {ρ1 : α → σ → J → En} (F : σ → J → En) (s0 : σ) (j0 : J) (h0 : ρ = F s0 j0) (hi : SimI e (evi C false it ρ) mi) (hbt : ∀ a s j, bindT tg (e a) (F s j) = some (ρ1 a s j)) (hb : ∀ a s j, FQ (PN F) TT (exSs C b (ρ1 a s j)) (B a s)) (k : ∀ s j, FQ P TT (exSs C ss (F s j)) (K s)) : FQ P TT (exSs C (.cons (.for_ tg it b) ss) ρ) (mi.bnd fun xs => (fold B xs s0).bnd K) := by
  show FQ P TT (((evi C false it ρ).thn ρ fun ds => forL (fun d ρ => (ofO (bindT tg d ρ)).nxt (exSs C b)) ds ρ).nxt (exSs C ss)) _
  cases mi with
  | ok xs =>
    replace hi : evi C false it ρ = .ok (xs.map e) := hi
    rw [hi, h0]
    have h := forL_fold (F := F) (e := e) (f := fun d ρ => (ofO (bindT tg d ρ)).nxt (exSs C b)) (B := B) (fun a s j => by
      show FQ (PN F) TT ((ofO (bindT tg (e a) (F s j))).nxt (exSs C b)) (B a s)
      rw [hbt]; exact hb a s j) xs s0 j0
    show FQ P TT ((forL _ (xs.map e) (F s0 j0)).nxt (exSs C ss)) ((fold B xs s0).bnd K)
    cases hB : fold B xs s0 with
    | ok s' =>
      rw [hB] at h
      obtain ⟨j', h⟩ := h
      rw [h]
      exact k s' j'
    | exc c =>
      rw [hB] at h
      obtain ⟨ρ', h, _⟩ := h
      rw [h]
      exact ⟨ρ', rfl, trivial⟩
    | bad => exact trivial
  | exc c => replace hi : evi C false it ρ = .exc c := hi; rw [hi]; exact ⟨ρ, rfl, trivial⟩
  | bad => exact trivial
theorem st_forR {tg : Tg} {it : It} {mi : M (List α)} {B : α → σ → M (Stp σ γ)} {K : σ → M β} {K2 : γ → β} {er : γ → D} {ρ1 : α → σ → J → En} (F : σ → J → En) (s0 : σ) (j0 : J) (h0 : ρ = F s0 j0) (hi : SimI e (evi C false it ρ) mi) (hbt : ∀ a s j, bindT tg (e a) (F s j) = some (ρ1 a s j)) (hb : ∀ a s j, FQ (PL F er) TT (exSs C b (ρ1 a s j)) (B a s)) (k : ∀ s j, FQ P TT (exSs C ss (F s j)) (K s)) (hP : ∀ a, P (.rt (er a)) (K2 a)) : FQ P TT (exSs C (.cons (.for_ tg it b) ss) ρ) (mi.bnd fun xs => (loop B xs s0).bnd fun r => onS r K K2) := by
  show FQ P TT (((evi C false it ρ).thn ρ fun ds => forL (fun d ρ => (ofO (bindT tg d ρ)).nxt (exSs C b)) ds ρ).nxt (exSs C ss)) _
  cases mi with
  | ok xs =>
    replace hi : evi C false it ρ = .ok (xs.map e) := hi
    rw [hi, h0]
    have h := forL_loop (F := F) (e := e) (er := er) (f := fun d ρ => (ofO (bindT tg d ρ)).nxt (exSs C b)) (B := B) (fun a s j => by
      show FQ (PL F er) TT ((ofO (bindT tg (e a) (F s j))).nxt (exSs C b)) (B a s)
      rw [hbt]; exact hb a s j) xs s0 j0
    show FQ P TT ((forL _ (xs.map e) (F s0 j0)).nxt (exSs C ss)) ((loop B xs s0).bnd fun r => onS r K K2)
    cases hB : loop B xs s0 with
    | ok r =>
      rw [hB] at h
      cases r with
      | nx s' =>
        obtain ⟨j', h⟩ := h
        rw [h]
        exact k s' j'
      | rt v =>
        replace h : forL _ (xs.map e) (F s0 j0) = .rt (er v) := h
        rw [h]
        exact hP v
    | exc c =>
      rw [hB] at h
      obtain ⟨ρ', h, _⟩ := h
      rw [h]
      exact ⟨ρ', rfl, trivial⟩
    | bad => exact trivial
  | exc c => replace hi : evi C false it ρ = .exc c := hi; rw [hi]; exact ⟨ρ, rfl, trivial⟩
  | bad => exact trivial
/-! ### try -/
/-- its suite always returns -/
theorem st_tryR {hs : List (Nat × Option Nat × Su)} {er : α → D} {H : Nat → M β} {K2 : α → β} {E2 : En → Prop} (hb : FQ (PF er) E2 (exSs C b ρ) m) (hh : ∀ c ρ', E2 ρ' → FQ P E ((hdF C c ρ' hs).nxt (exSs C ss)) (H c)) (hP : ∀ a, P (.rt (er a)) (K2 a)) : FQ P E (exSs C (.cons (.try_ b hs) ss) ρ) (m.tryc (fun a => .ok (K2 a)) H) := by
  show FQ P E ((match exSs C b ρ with
    | .exc c ρ' => hdF C c ρ' hs
    | r => r).nxt (exSs C ss)) _
  cases m with
  | ok a => replace hb : exSs C b ρ = .rt (er a) := hb; rw [hb]; exact hP a
  | exc c => obtain ⟨ρ', h, h2⟩ := hb; rw [h]; exact hh c ρ' h2
  | bad => exact trivial
/-- its suite goes on -/
theorem st_tryN {hs : List (Nat × Option Nat × Su)} {m : M σ} {H : Nat → M β} {K : σ → M β} {E2 : En → Prop} (F : σ → J → En) (hb : FQ (PN F) E2 (exSs C b ρ) m) (hh : ∀ c ρ', E2 ρ' → FQ P E ((hdF C c ρ' hs).nxt (exSs C ss)) (H c)) (k : ∀ s j, FQ P E (exSs C ss (F s j)) (K s)) : FQ P E (exSs C (.cons (.try_ b hs) ss) ρ) (m.tryc K H) := by
  show FQ P E ((match exSs C b ρ with
    | .exc c ρ' => hdF C c ρ' hs
    | r => r).nxt (exSs C ss)) _
  cases m with
  | ok a => obtain ⟨j, hb⟩ := hb; rw [hb]; exact k a j
  | exc c => obtain ⟨ρ', h, h2⟩ := hb; rw [h]; exact hh c ρ' h2
  | bad => exact trivial
/-- which class is under which: 0 BarError, over all; 1 NoRow; 2 NoCode; 3 Doubtful; 4 Closed; 5 NoText -/
def subF (c k : Nat) : Option Bool := if c < 6 then some (k == 0 || c == k) else none
def hdM (c k : Nat) (m1 m2 : M β) : M β := match subF c k with
  | some true => m1
  | some false => m2
  | none => .bad
theorem h_nil {c : Nat} (hE : E ρ) : FQ P E ((hdF C c ρ []).nxt (exSs C ss)) (.exc c) := ⟨ρ, rfl, hE⟩
theorem h_cons {c k : Nat} {o : Option Nat} {s : Su} {hs : List (Nat × Option Nat × Su)} {m1 m2 : M β} (hsub : ∀ c, c < 6 → C.sub c k = subF c k) (h1 : FQ P E ((suF C c ρ s).nxt (exSs C ss)) m1) (h2 : FQ P E ((hdF C c ρ hs).nxt (exSs C ss)) m2) : FQ P E ((hdF C c ρ ((k, o, s) :: hs)).nxt (exSs C ss)) (hdM c k m1 m2) := by
  show FQ P E (Fl.nxt (match C.sub c k with
    | some true => suF C c ρ s
    | some false => hdF C c ρ hs
    | none => .bad) (exSs C ss)) _
  by_cases hc : c < 6
  · rw [hsub c hc]
    unfold hdM
    cases q : subF c k with
    | none => exact trivial
    | some t => cases t with
      | true => exact h1
      | false => exact h2
  · have : subF c k = none := by unfold subF; rw [if_neg hc]
    unfold hdM
    rw [this]; exact trivial
theorem u_retC {c : Nat} {d : D} {v : α} {b2 : β} (h : d = e v) (hP : P (.rt (e v)) b2) : FQ P E ((suF C c ρ (.retC d)).nxt (exSs C ss)) (.ok b2) := by subst h; exact hP
theorem u_word {c : Nat} {b2 : β} {s : List Nat} (hw : C.word i c = some s) (hP : P (.rt (.str s)) b2) : FQ P E ((suF C c ρ (.word i)).nxt (exSs C ss)) (.ok b2) := by
  show FQ P E (Fl.nxt (match C.word i c with
    | some s => .rt (.str s)
    | none => .bad) _) _
  rw [hw]
  exact hP
theorem u_app {c : Nat} {d : D} {v : α} {xs : List α} {K' : List α → M β} (h : d = e v) (hs : ρ[i]? = some (some (.mu (xs.map e)))) (k : ∀ ys : List α, FQ P E (exSs C ss (putM ρ i (ys.map e))) (K' ys)) : FQ P E ((suF C c ρ (.appC i d)).nxt (exSs C ss)) (.grd (xs.length < lim) (K' (xs ++ [v]))) := by
  subst h
  show FQ P E ((appF ρ i (e v)).nxt (exSs C ss)) _
  unfold appF M.grd
  rw [hs]
  show FQ P E ((if (xs.map e).length < lim then Fl.nx (putM ρ i (xs.map e ++ [e v])) else .bad).nxt (exSs C ss)) _
  rw [List.length_map]
  by_cases hl : xs.length < lim
  · rw [if_pos hl, if_pos hl]
    have := k (xs ++ [v])
    rw [List.map_append] at this
    exact this
  · rw [if_neg hl, if_neg hl]; exact trivial
end
/-! ### a def called -/
theorem fn_sim {α : Type} {e : α → D} {T : Tab} {n f : Nat} {F : Fn} {ds : List D} {m : M α} (ρ : En) (hf : T.fns[f]? = some F) (hl : ds.length = F.np) (hρ : (ds.map (fun d => some (.im d)) ++ List.replicate (F.ns - F.np) none : En) = ρ) (h : FQ (PF e) TT (exSs (calT T (run T n)) F.body ρ) m) : Sim e (run T (n + 1) f ds) m := by
  rw [run_at hf]
  unfold callF
  rw [if_pos hl, hρ]
  cases m with
  | ok a => replace h : exSs _ F.body ρ = .rt (e a) := h; rw [h]; exact rfl
  | exc c => obtain ⟨ρ', h, _⟩ := h; rw [h]; exact rfl
  | bad => exact trivial
theorem fn_simU {T : Tab} {n f : Nat} {F : Fn} {ds : List D} {m : M Unit} (ρ : En) (hf : T.fns[f]? = some F) (hl : ds.length = F.np) (hρ : (ds.map (fun d => some (.im d)) ++ List.replicate (F.ns - F.np) none : En) = ρ) (h : FQ PU TT (exSs (calT T (run T n)) F.body ρ) m) : Sim eN (run T (n + 1) f ds) m := by
  rw [run_at hf]
  unfold callF
  rw [if_pos hl, hρ]
  cases m with
  | ok a => obtain ⟨ρ', h⟩ := h; rw [h]; exact rfl
  | exc c => obtain ⟨ρ', h, _⟩ := h; rw [h]; exact rfl
  | bad => exact trivial
theorem up_sim {α : Type} {e : α → D} {T : Tab} {f k N : Nat} {ds : List D} {m : M α} (h : ∀ n, Sim e (run T (n + k) f ds) m) (hN : k ≤ N) : Sim e (run T N f ds) m := by
  have := h (N - k)
  rwa [Nat.sub_add_cancel hN] at this
end Dk

/-! DkW: more of the typed laws. -/
namespace Dk
section
variable {α β γ : Type} {e : α → D} {e1 : α → D} {e2 : β → D} {C : Cal} {ρ : En} {a b : Ex} {m1 : M α}
theorem s_ixP {k : Int} {π : α → β} (h1 : SimW e1 (ev C a ρ) m1) (h : ∀ x, ixD (e1 x) (.int k) = .ok (e2 (π x))) : Sim e2 (ev C (.ix a (.lit (.int k))) ρ) (m1.bnd fun x => .ok (π x)) := h1.bnd fun x => h x
theorem s_isN {m1 : M (Option α)} (w : ∀ a, isD (e a) .non = .ok (.bl false)) (h1 : SimW (eO e) (ev C a ρ) m1) : Sim eB (ev C (.cmp .is a (.lit .non)) ρ) (m1.bnd fun x => .ok x.isNone) := h1.bnd fun x => o_isN w x
theorem s_isntN {m1 : M (Option α)} (w : ∀ a, isD (e a) .non = .ok (.bl false)) (h1 : SimW (eO e) (ev C a ρ) m1) : Sim eB (ev C (.cmp .isnt a (.lit .non)) ρ) (m1.bnd fun x => .ok x.isSome) := h1.bnd fun x => o_isntN w x
end
theorem fq_at {β : Type} {P : Fl → β → Prop} {E : En → Prop} {C : Cal} {ρ ρ' : En} {ss : Sms} {m : M β} (h : ρ = ρ') (k : FQ P E (exSs C ss ρ') m) : FQ P E (exSs C ss ρ) m := by subst h; exact k
theorem ap_cons {β : Type} {P : Fl → β → Prop} {E : En → Prop} {C : Cal} {ρ : En} {s : Sm} {t ss : Sms} {m : M β} (k : FQ P E (exSs C (.cons s (apS t ss)) ρ) m) : FQ P E (exSs C (apS (.cons s t) ss) ρ) m := k
theorem ap_nil {β : Type} {P : Fl → β → Prop} {E : En → Prop} {C : Cal} {ρ : En} {ss : Sms} {m : M β} (k : FQ P E (exSs C ss ρ) m) : FQ P E (exSs C (apS .nil ss) ρ) m := k
def isAM {β : Type} (c k : Nat) (f : Bool → M β) : M β := match subF c k with
  | some b => f b
  | none => .bad
theorem u_isA {β : Type} {P : Fl → β → Prop} {E : En → Prop} {C : Cal} {ρ : En} {ss : Sms} {i c k : Nat} {f : Bool → M β} {g : Bool → β} (hsub : ∀ c, c < 6 → C.sub c k = subF c k) (hf : ∀ b, f b = .ok (g b)) (hP : ∀ b, P (.rt (.bl b)) (g b)) : FQ P E ((suF C c ρ (.isA i k)).nxt (exSs C ss)) (isAM c k f) := by
  show FQ P E (Fl.nxt (match C.sub c k with
    | some b => .rt (.bl b)
    | none => .bad) (exSs C ss)) _
  unfold isAM
  by_cases hc : c < 6
  · rw [hsub c hc]
    cases subF c k with
    | none => exact trivial
    | some b => simp only; rw [hf b]; exact hP b
  · have : subF c k = none := by unfold subF; rw [if_neg hc]
    rw [this]; exact trivial
/-! ### orders -/
/-- the first place -/
def ixF {α : Type} [DecidableEq α] (a : α) : List α → Nat
  | [] => 0
  | x :: xs => if x = a then 0 else ixF a xs + 1
def idxTM {α : Type} [DecidableEq α] (xs : List α) (a : α) : M Int := .grd (memB a xs = true) (.ok ((ixF a xs : Nat) : Int))
theorem memB_iff {α : Type} [DecidableEq α] {a : α} {xs : List α} : memB a xs = true ↔ a ∈ xs := by
  unfold memB
  exact decide_eq_true_iff
def strIM (i : Int) : M (List Nat) := .grd (0 ≤ i ∧ i < 1000) (.ok (natDigits i.toNat))
def ordIn (a b : Int) : Ordering := compare a b
def ordS (a b : List Nat) : Ordering := compare a b
def ordT {α : Type} (c : α → α → Ordering) : List α → List α → Ordering
  | [], [] => .eq
  | [], _ :: _ => .lt
  | _ :: _, [] => .gt
  | x :: xs, y :: ys => match c x y with
    | .eq => ordT c xs ys
    | o => o
def ordP {α β : Type} (c : α → α → Ordering) (d : β → β → Ordering) (a b : α × β) : Ordering := match c a.1 b.1 with
  | .eq => d a.2 b.2
  | o => o
def bestF {α : Type} (p : Ordering) (c : α → α → Ordering) : α → List α → α
  | d, [] => d
  | d, x :: r => if c x d = p then bestF p c x r else bestF p c d r
def bestM {α : Type} (p : Ordering) (c : α → α → Ordering) : List α → M α
  | [] => .bad
  | x :: r => .ok (bestF p c x r)
section
variable {α : Type} {e : α → D}
theorem findIdx_map [DecidableEq α] {n : Nat} (q : EqF n e) (x : α) : ∀ xs : List α, (xs.map e).findIdx? (fun z => eqD z (e x)) = if memB x xs = true then some (ixF x xs) else none
  | [] => by
    have : ¬ memB x ([] : List α) = true := fun h => by rw [memB_iff] at h; cases h
    rw [if_neg this]; rfl
  | y :: xs => by
    rw [List.map_cons, List.findIdx?_cons, q.eq, findIdx_map q x xs]
    by_cases h : y = x
    · subst h
      rw [if_pos (memB_iff.mpr (List.mem_cons_self ..))]
      simp [ixF]
    · have h2 : ¬ x = y := fun z => h z.symm
      have e1 : memB x (y :: xs) = memB x xs := by
        rw [Bool.eq_iff_iff, memB_iff, memB_iff, List.mem_cons]
        exact ⟨fun z => z.resolve_left h2, .inr⟩
      rw [e1]
      cases memB x xs with
      | true => simp [h, ixF]
      | false => simp [h]
theorem idxD_map [DecidableEq α] {n : Nat} (q : EqF n e) (xs : List α) (x : α) : Sim eI (idxD (e x) (xs.map e)) (idxTM xs x) := by
  unfold idxD idxTM M.grd
  rw [findIdx_map q]
  cases memB x xs with
  | true => exact rfl
  | false => exact trivial
theorem o_indexT [DecidableEq α] {n : Nat} (q : EqF n e) (hn' : Nat.ble n 59 = true) (xs : List α) (x : α) : Sim eI (meD .indexT (eT e xs) [e x]) (idxTM xs x) := by
  have hn : n ≤ 59 := Nat.le_of_ble_eq_true hn'
  show Sim eI (if dat (e x) = true ∧ datL 59 (xs.map e) = true then idxD (e x) (xs.map e) else .bad) _
  rw [if_pos ⟨dat_of (q.dt x) (by omega), datL_mapD q hn xs⟩]
  exact idxD_map q xs x
theorem o_indexL [DecidableEq α] {n : Nat} (q : EqF n e) (hn' : Nat.ble n 59 = true) (xs : List α) (x : α) : Sim eI (meD .indexL (eL e xs) [e x]) (idxTM xs x) := by
  have hn : n ≤ 59 := Nat.le_of_ble_eq_true hn'
  show Sim eI (if dat (e x) = true ∧ datL 59 (xs.map e) = true then idxD (e x) (xs.map e) else .bad) _
  rw [if_pos ⟨dat_of (q.dt x) (by omega), datL_mapD q hn xs⟩]
  exact idxD_map q xs x
def cntF {α : Type} [DecidableEq α] (xs : List α) (x : α) : Int := ((xs.countP fun z => decide (z = x) : Nat) : Int)
theorem o_countL [DecidableEq α] {n : Nat} (q : EqF n e) (hn' : Nat.ble n 59 = true) (xs : List α) (x : α) : Sim eI (meD .countL (eL e xs) [e x]) (.ok (cntF xs x)) := by
  have hn : n ≤ 59 := Nat.le_of_ble_eq_true hn'
  show (if dat (e x) = true ∧ datL 59 (xs.map e) = true then R.ok (.int (((xs.map e).countP fun z => eqD z (e x) : Nat) : Int)) else .bad) = _
  rw [if_pos ⟨dat_of (q.dt x) (by omega), datL_mapD q hn xs⟩, List.countP_map]
  have e1 : (fun z => eqD z (e x)) ∘ e = fun z => decide (z = x) := by
    funext z
    show eqD (e z) (e x) = _
    rw [q.eq]
  rw [e1]; rfl
theorem mk_T (v : List α) : meK .indexT (eT e v) = true := rfl
theorem mk_Li (v : List α) : meK .indexL (eL e v) = true := rfl
theorem mk_Lc (v : List α) : meK .countL (eL e v) = true := rfl
end
end Dk

/-! DkP: whether two things are the same, part by part. -/
namespace Dk
/-- tuples of words, numbers, None, no more than n deep -/
def okN : Nat → D → Bool
  | _, .non => true
  | _, .bl _ => true
  | _, .int _ => true
  | _, .str _ => true
  | n + 1, .tup xs => xs.all (okN n)
  | _, _ => false
def sameT (k : Nat) : Fn := ⟨2, 4,
 (.cons (.ite (.isi (.slot 1) .tup)
 (.cons (.ite (.or_ (.not_ (.isi (.slot 0) .tup)) (.cmp .ne (.bi .len (.cons (.slot 0) .nil)) (.bi .len (.cons (.slot 1) .nil))))
 (.cons (.ret (.lit (.bl false))) .nil)
 (.nil))
 (.cons (.ret (.bi .all (.cons (.comp (.call k (.cons (.slot 2) (.cons (.slot 3) .nil))) (.many [2, 3]) (.zip (.slot 0) (.slot 1)) (.lit (.bl true)) [2, 3]) .nil))) .nil))
 (.nil))
 (.cons (.ite (.cmp .is (.slot 1) (.lit (.non)))
 (.cons (.ret (.cmp .is (.slot 0) (.lit (.non)))) .nil)
 (.nil))
 (.cons (.ite (.or_ (.isi (.slot 1) .bl) (.isi (.slot 0) .bl))
 (.cons (.ret (.and_ (.isi (.slot 1) .bl) (.and_ (.isi (.slot 0) .bl) (.cmp .eq (.slot 0) (.slot 1))))) .nil)
 (.nil))
 (.cons (.ret (.and_ (.isi (.slot 0) .intstr) (.cmp .eq (.slot 0) (.slot 1)))) .nil))))⟩
theorem compL_same {f : D → Option En} {c e : En → R} : ∀ (xs : List D), (∀ x ∈ xs, ∃ ρ, f (.tup [x, x]) = some ρ ∧ c ρ = .ok (.bl true) ∧ e ρ = .ok (.bl true)) → compL f c e (zipD xs xs) = some (xs.map fun _ => .bl true)
  | [], _ => rfl
  | x :: xs, h => by
    obtain ⟨ρ, h1, h2, h3⟩ := h x (List.mem_cons_self ..)
    show compL f c e (.tup [x, x] :: zipD xs xs) = _
    unfold compL
    rw [h1]
    simp only [h2, h3, compL_same xs fun y hy => h y (List.mem_cons_of_mem _ hy), truD]
    rfl
theorem bls_true : ∀ (xs : List D), allD (.lst (xs.map fun _ => .bl true)) = .ok (.bl true) := fun xs => by
  have h : ∀ ys : List D, blsOf (ys.map fun _ => D.bl true) = some (ys.map fun _ => true) := fun ys => by
    induction ys with
    | nil => rfl
    | cons y ys ih =>
      show blsOf (.bl true :: ys.map fun _ => D.bl true) = _
      unfold blsOf
      rw [ih]; rfl
  show (match blsOf (xs.map fun _ => D.bl true) with
    | some bs => R.ok (.bl (bs.all id))
    | none => .bad) = _
  rw [h]
  simp
theorem eq_int (i : Int) : cmpR .eq (.int i) (.int i) = .ok (.bl true) := by
  show (if dat (.int i) = true ∧ dat (.int i) = true then R.ok (.bl (i == i)) else .bad) = _
  rw [if_pos ⟨rfl, rfl⟩]; simp
theorem ne_int (i : Int) : cmpR .ne (.int i) (.int i) = .ok (.bl false) := by
  show (if dat (.int i) = true ∧ dat (.int i) = true then R.ok (.bl (!(i == i))) else .bad) = _
  rw [if_pos ⟨rfl, rfl⟩]; simp
theorem eq_str (s : List Nat) : cmpR .eq (.str s) (.str s) = .ok (.bl true) := by
  show (if dat (.str s) = true ∧ dat (.str s) = true then R.ok (.bl (s == s)) else .bad) = _
  rw [if_pos ⟨rfl, rfl⟩]; simp
theorem same_run {T : Tab} {k : Nat} (h : T.fns[k]? = some (sameT k)) : ∀ (n N : Nat) (a : D), n < N → okN n a = true → run T N k [a, a] = .ok (.bl true)
  | n, 0, a, hn, _ => absurd hn (Nat.not_lt_zero _)
  | n, N + 1, a, hn, ha => by
    show (match T.fns[k]? with
      | some F => callF (calT T (run T N)) F [a, a]
      | none => lakT T (calT T (run T N)) (k - T.fns.length) [a, a]) = _
    rw [h]
    show callF (calT T (run T N)) (sameT k) [a, a] = _
    cases a with
    | non => rfl
    | bl b => cases b <;> rfl
    | int i =>
      show (match (match cmpR .eq (.int i) (.int i) with
        | .ok d => Fl.rt d
        | .okm _ => .bad
        | .exc c => .exc c [some (.im (.int i)), some (.im (.int i)), none, none]
        | .bad => .bad) with
        | .nx _ => R.ok .non
        | .rt d => .ok d
        | .exc c _ => .exc c
        | .bad => .bad) = _
      rw [eq_int]
    | str s =>
      show (match (match cmpR .eq (.str s) (.str s) with
        | .ok d => Fl.rt d
        | .okm _ => .bad
        | .exc c => .exc c [some (.im (.str s)), some (.im (.str s)), none, none]
        | .bad => .bad) with
        | .nx _ => R.ok .non
        | .rt d => .ok d
        | .exc c _ => .exc c
        | .bad => .bad) = _
      rw [eq_str]
    | tup xs =>
      cases n with
      | zero => cases ha
      | succ n =>
        have ih : ∀ x ∈ xs, run T N k [x, x] = .ok (.bl true) := fun x hx => same_run h n N x (by omega) (List.all_eq_true.mp ha x hx)
        have e0 : ev (calT T (run T N)) (.bi .all (.cons (.comp (.call k (.cons (.slot 2) (.cons (.slot 3) .nil))) (.many [2, 3]) (.zip (.slot 0) (.slot 1)) (.lit (.bl true)) [2, 3]) .nil)) [some (.im (.tup xs)), some (.im (.tup xs)), none, none] = .ok (.bl true) := by
          show ((consW (optL (compL _ _ _ (zipD xs xs))) (.ok [])).bnd fun ds => biD .all ds) = _
          rw [compL_same xs fun x hx => ⟨[some (.im (.tup xs)), some (.im (.tup xs)), some (.im x), some (.im x)], rfl, rfl, ih x hx⟩]
          exact bls_true xs
        have e1 : ev (calT T (run T N)) (.or_ (.not_ (.isi (.slot 0) .tup)) (.cmp .ne (.bi .len (.cons (.slot 0) .nil)) (.bi .len (.cons (.slot 1) .nil)))) [some (.im (.tup xs)), some (.im (.tup xs)), none, none] = .ok (.bl false) := by
          show orR (.bl false) (cmpR .ne (.int (xs.length : Nat)) (.int (xs.length : Nat))) = _
          rw [ne_int]; rfl
        have e2 : exSs (calT T (run T N)) (.cons (.ite (.or_ (.not_ (.isi (.slot 0) .tup)) (.cmp .ne (.bi .len (.cons (.slot 0) .nil)) (.bi .len (.cons (.slot 1) .nil))))
            (.cons (.ret (.lit (.bl false))) .nil) (.nil))
            (.cons (.ret (.bi .all (.cons (.comp (.call k (.cons (.slot 2) (.cons (.slot 3) .nil))) (.many [2, 3]) (.zip (.slot 0) (.slot 1)) (.lit (.bl true)) [2, 3]) .nil))) .nil)) [some (.im (.tup xs)), some (.im (.tup xs)), none, none] = .rt (.bl true) := by
          rw [exSs, exS, e1]
          show Fl.nxt (Fl.nx _) _ = _
          show exSs _ _ _ = _
          rw [exSs, exS, e0]
          rfl
        unfold callF
        rw [if_pos (show [D.tup xs, D.tup xs].length = (sameT k).np from rfl)]
        have e3 : exSs (calT T (run T N)) (sameT k).body [some (.im (.tup xs)), some (.im (.tup xs)), none, none] = .rt (.bl true) := by
          unfold sameT
          rw [exSs, exS]
          show Fl.nxt (exSs _ _ _) _ = _
          rw [e2]
          rfl
        show (match exSs (calT T (run T N)) (sameT k).body [some (.im (.tup xs)), some (.im (.tup xs)), none, none] with
          | .nx _ => R.ok .non
          | .rt d => .ok d
          | .exc c _ => .exc c
          | .bad => .bad) = _
        rw [e3]
    | lst xs => cases n <;> cases ha
    | frz ns => cases n <;> cases ha
    | fn j => cases n <;> cases ha
/-- alike, part by part -/
noncomputable def h_same (a b : D) : M Bool := @M.grd _ (okN 6 a = true ∧ a = b) (Classical.propDecidable _) (.ok true)
theorem same_refl {a b : D} (e : a = b) (h : okN 6 a = true) : h_same a b = .ok true := by
  unfold h_same M.grd
  exact if_pos ⟨h, e⟩
theorem same_sim {T : Tab} {k : Nat} (h : T.fns[k]? = some (sameT k)) (N : Nat) (hN : 8 ≤ N) (a b : D) : Sim eB (run T N k [eD a, eD b]) (h_same a b) := by
  unfold h_same M.grd
  by_cases q : okN 6 a = true ∧ a = b
  · rw [if_pos q]
    obtain ⟨q1, rfl⟩ := q
    have := same_run h 6 N a (by omega) q1
    show Sim eB (run T N k [a, a]) _
    rw [this]
    exact rfl
  · rw [if_neg q]
    exact trivial
/-! ### the def that tells the figure that lacks -/
def lakP (ask : List Nat → M Bool) (figs v : List Nat) : M (List Nat) := M.grd (v.length ≤ 1000 ∧ ∀ z ∈ figs, z ≠ 63) ((cmpM (fun y => ask (v.map fun x => if x = 63 then y.headD 0 else x)) (fun y => .ok y) (chars figs)).bnd fun l => ixM l 0)
theorem lak_sim {T : Tab} {k f kc r : Nat} {F : Fn} {figs : List Nat} {ask : List Nat → M Bool} (hF : T.fns[k]? = some F) (hl : lakOf F.body = some (f, kc)) (h1 : F.np = 1) (h2 : F.ns = 2) (hc : T.consts[kc]? = some (.str figs)) (ha : ∀ N, r ≤ N → ∀ x, Sim eB (run T N f [eS x]) (ask x)) (N : Nat) (hN : r + 1 ≤ N) (v : List Nat) : Sim eS (run T N (T.fns.length + k) [eS v]) (lakP ask figs v) := by
  obtain ⟨n, rfl⟩ : ∃ n, N = n + 1 := ⟨N - 1, by omega⟩
  rw [run_lak hF]
  have key : Sim eS (lakM (calT T (run T n)) f kc [some (.im (eS v)), none]) (lakP ask figs v) := by
    unfold lakP M.grd
    split
    · rename_i hz
      obtain ⟨hz1, hz2⟩ := hz
      unfold lakM
      have hg : (calT T (run T n)).glob kc = some (.str figs) := hc
      rw [hg]
      refine Sim.bnd (e1 := eL eS) ?_ fun x => o_ixL x 0
      show Sim (eL eS) (optL (compL (fun d => bindT (.one 1) d (wipeE [some (.im (eS v)), none] [1])) _ _ (figs.map fun c => .str [c]))) (cmpM _ _ (figs.map fun c => [c]))
      generalize hcc : (fun y : List Nat => ask (v.map fun x => if x = 63 then y.headD 0 else x)) = cc
      generalize hmc : (fun ρ : En => (consL ((getS ρ 0).bndS fun t => (getS ρ 1).bndS fun z => repF t z) (Rs.ok [])).bnd ((calT T (run T n)).call f)) = mc
      have hask : ∀ z ∈ figs, Sim eB (mc [some (.im (eS v)), some (.im (.str [z]))]) (cc [z]) := fun z hz => by
        subst hcc hmc
        have e : repF (eS v) (.str [z]) = .ok (.str (v.map fun x => if x = 63 then z else x)) := if_pos ⟨hz1, hz2 z hz⟩
        show Sim eB ((consL (repF (eS v) (.str [z])) (Rs.ok [])).bnd ((calT T (run T n)).call f)) _
        rw [e]
        exact ha n (by omega) _
      clear hcc hmc hc hz2 hg
      induction figs with
      | nil => exact rfl
      | cons z zs ih =>
        have i1 := ih (fun y hy => hask y (List.mem_cons_of_mem _ hy))
        have i2 := hask z (List.mem_cons_self ..)
        rw [List.map_cons, List.map_cons]
        unfold cmpM compL
        have hb : bindT (.one 1) (.str [z]) (wipeE [some (.im (eS v)), none] [1]) = some [some (.im (eS v)), some (.im (.str [z]))] := rfl
        simp only [hb]
        cases hq : cc [z] with
        | ok t =>
          rw [hq] at i2
          replace i2 : mc [some (.im (eS v)), some (.im (.str [z]))] = .ok (.bl t) := i2
          simp only [i2, truD_bl]
          cases t with
          | true =>
            have hg1 : getS [some (.im (eS v)), some (.im (.str [z]))] 1 = .ok (.str [z]) := rfl
            simp only [hg1]
            cases hm : cmpM cc (fun y => M.ok y) (zs.map fun c => [c]) with
            | ok ys =>
              rw [hm] at i1
              replace i1 : optL (compL (fun d => bindT (.one 1) d (wipeE [some (.im (eS v)), none] [1])) mc (fun ρ => getS ρ 1) (zs.map fun c => .str [c])) = .ok (.lst (ys.map eS)) := i1
              cases hp : compL (fun d => bindT (.one 1) d (wipeE [some (.im (eS v)), none] [1])) mc (fun ρ => getS ρ 1) (zs.map fun c => .str [c]) with
              | none => rw [hp] at i1; cases i1
              | some l =>
                rw [hp] at i1
                have e := D.lst.inj (R.ok.inj i1)
                rw [e]
                exact rfl
            | exc c =>
              rw [hm] at i1
              replace i1 : optL (compL (fun d => bindT (.one 1) d (wipeE [some (.im (eS v)), none] [1])) mc (fun ρ => getS ρ 1) (zs.map fun c => .str [c])) = .exc c := i1
              cases hp : compL (fun d => bindT (.one 1) d (wipeE [some (.im (eS v)), none] [1])) mc (fun ρ => getS ρ 1) (zs.map fun c => .str [c]) with
              | none => rw [hp] at i1; cases i1
              | some l => rw [hp] at i1; cases i1
            | bad => exact trivial
          | false => exact i1
        | exc c => exact trivial
        | bad => exact trivial
    · exact trivial
  unfold lakR
  rw [hl]
  dsimp only
  rw [if_pos ⟨h1, h2⟩]
  show Sim eS (match (lakM (calT T (run T n)) f kc [some (.im (eS v)), none]).ret [] with
    | .rt d => .ok d
    | .exc c _ => .exc c
    | _ => .bad) _
  cases hm : lakP ask figs v with
  | ok a =>
    rw [hm] at key
    replace key : lakM (calT T (run T n)) f kc [some (.im (eS v)), none] = .ok (eS a) := key
    rw [key]
    exact rfl
  | exc c =>
    rw [hm] at key
    replace key : lakM (calT T (run T n)) f kc [some (.im (eS v)), none] = .exc c := key
    rw [key]
    exact rfl
  | bad => exact trivial
end Dk
namespace Dk
section
variable {α β γ : Type} {e2 : β → D} {C : Cal} {ρ : En} {a b c x : Ex} {es : Exs} {m : M β} {P : Fl → γ → Prop} {E : En → Prop} {tt bb ss : Sms} {m1 : M γ}
/-! ### where a number is known -/
theorem a_kon {f : List D → R} {d : D} (h : ev C a ρ = .ok d) (hk : Sim e2 ((evs C es ρ).bnd fun ds => f (d :: ds)) m) : Sim e2 ((evs C (.cons a es) ρ).bnd f) m := by
  show Sim e2 ((consL (ev C a ρ) (evs C es ρ)).bnd f) _
  rw [h]
  cases q : evs C es ρ with
  | ok ds => rw [q] at hk; exact hk
  | exc k => rw [q] at hk; exact hk
  | bad => rw [q] at hk; exact hk
theorem s_ifT (h : ev C c ρ = .ok (.bl true)) (h2 : Sim e2 (ev C a ρ) m) : Sim e2 (ev C (.ife c a b) ρ) m := by
  show Sim e2 ((ev C c ρ).bnd fun x => ifR x (ev C a ρ) (ev C b ρ)) m
  rw [h]; exact h2
theorem s_ifN (h : ev C c ρ = .ok (.bl false)) (h2 : Sim e2 (ev C b ρ) m) : Sim e2 (ev C (.ife c a b) ρ) m := by
  show Sim e2 ((ev C c ρ).bnd fun x => ifR x (ev C a ρ) (ev C b ρ)) m
  rw [h]; exact h2
theorem st_iteT (h : ev C x ρ = .ok (.bl true)) (h1 : FQ P E (exSs C (apS tt ss) ρ) m1) : FQ P E (exSs C (.cons (.ite x tt bb) ss) ρ) m1 := by
  show FQ P E (((ev C x ρ).thnW ρ fun d => ifF d (exSs C tt ρ) (exSs C bb ρ)).nxt (exSs C ss)) _
  rw [h]
  rw [exSs_ap] at h1; exact h1
theorem st_iteN (h : ev C x ρ = .ok (.bl false)) (h1 : FQ P E (exSs C (apS bb ss) ρ) m1) : FQ P E (exSs C (.cons (.ite x tt bb) ss) ρ) m1 := by
  show FQ P E (((ev C x ρ).thnW ρ fun d => ifF d (exSs C tt ρ) (exSs C bb ρ)).nxt (exSs C ss)) _
  rw [h]
  rw [exSs_ap] at h1; exact h1
end
end Dk
namespace Dk
/-! ### min, max of some ints; str -/
def bstM (f : Int → Int → Int) : List Int → M Int
  | i :: is => .ok (is.foldl f i)
  | [] => .bad
theorem o_minT (x : List Int) : Sim eI (biD .min [eT eI x]) (bstM min x) := by
  show Sim eI (minD (.tup (x.map eI))) _
  unfold minD
  rw [show (itemsD (.tup (x.map eI))).bind intsOf = some x from intsOf_map x]
  cases x with
  | nil => exact trivial
  | cons i is => exact rfl
theorem o_maxT (x : List Int) : Sim eI (biD .max [eT eI x]) (bstM max x) := by
  show Sim eI (match intsOf (x.map eI) with
    | some (i :: is) => R.ok (.int (is.foldl max i))
    | _ => .bad) _
  rw [intsOf_map]
  cases x with
  | nil => exact trivial
  | cons i is => exact rfl
theorem o_minL (x : List Int) : Sim eI (biD .min [eL eI x]) (bstM min x) := by
  show Sim eI (minD (.lst (x.map eI))) _
  unfold minD
  rw [show (itemsD (.lst (x.map eI))).bind intsOf = some x from intsOf_map x]
  cases x with
  | nil => exact trivial
  | cons i is => exact rfl
theorem o_maxL (x : List Int) : Sim eI (biD .max [eL eI x]) (bstM max x) := by
  show Sim eI (match intsOf (x.map eI) with
    | some (i :: is) => R.ok (.int (is.foldl max i))
    | _ => .bad) _
  rw [intsOf_map]
  cases x with
  | nil => exact trivial
  | cons i is => exact rfl
theorem o_strI (i : Int) : Sim eS (biD .str [eI i]) (strIM i) := by
  show Sim eS (if 0 ≤ i ∧ i < 1000 then R.ok (.str (natDigits i.toNat)) else .bad) _
  unfold strIM M.grd
  by_cases h : 0 ≤ i ∧ i < 1000
  · rw [if_pos h, if_pos h]; exact rfl
  · rw [if_neg h, if_neg h]; exact trivial
end Dk
namespace Dk
/-! ### sorted -/
def srtIM (xs : List Int) : M (List Int) := .ok (xs.mergeSort fun a b => decide (a ≤ b))
def leTF (a b : List Int) : Bool := !(ordT ordIn b a == .lt)
def srtTM (xs : List (List Int)) : M (List (List Int)) := .grd (xs.all (fun r => !r.isEmpty) = true) (.ok (xs.mergeSort leTF))
theorem cmpL_ints : ∀ x y : List Int, cmpL (x.map eI) (y.map eI) = some (ordT ordIn x y)
  | [], [] => by simp [cmpL, ordT]
  | [], _ :: _ => by simp [cmpL, ordT]
  | _ :: _, [] => by simp [cmpL, ordT]
  | x :: xs, y :: ys => by
    have ih := cmpL_ints xs ys
    show cmpL (.int x :: xs.map eI) (.int y :: ys.map eI) = _
    rw [cmpL, ih]
    show (match cmpD (.int x) (.int y) with
      | some .eq => some (ordT ordIn xs ys)
      | o => o) = _
    have e : cmpD (.int x) (.int y) = some (compare x y) := by simp [cmpD]
    rw [e]
    show _ = some (match ordIn x y with
      | .eq => ordT ordIn xs ys
      | o => o)
    unfold ordIn
    cases compare x y <;> rfl
theorem o_srtI (x : List Int) : Sim (eL eI) (biD .sorted [eL eI x]) (srtIM x) := by
  have hc : ∀ a b : Int, cmpD (eI a) (eI b) = some (compare a b) := fun a b => by simp [eI, cmpD]
  have ok : srtOk (x.map eI) = true := by
    unfold srtOk
    rw [Bool.and_eq_true, Bool.and_eq_true, Bool.or_eq_true]
    refine ⟨List.all_eq_true.mpr fun d hd => List.all_eq_true.mpr fun d' hd' => ?_, datL_mapD eqf_I (by decide) x, .inl (List.all_eq_true.mpr fun d hd => ?_)⟩
    · obtain ⟨a, _, rfl⟩ := List.mem_map.mp hd
      obtain ⟨b, _, rfl⟩ := List.mem_map.mp hd'
      rw [hc]; rfl
    · obtain ⟨a, _, rfl⟩ := List.mem_map.mp hd
      rfl
  show (if srtOk (x.map eI) = true then R.ok (.lst ((x.map eI).mergeSort leD)) else .bad) = .ok (.lst ((x.mergeSort fun a b => decide (a ≤ b)).map eI))
  rw [if_pos ok, List.map_mergeSort (s := leD) fun a _ b _ => by
    unfold leD
    rw [hc]
    by_cases h : a ≤ b
    · have : compare b a ≠ .lt := fun z => by rw [Int.compare_eq_lt] at z; omega
      simp [h, this]
    · have : compare b a = .lt := Int.compare_eq_lt.mpr (by omega)
      simp [h, this]]
theorem o_srtT (x : List (List Int)) : Sim (eL (eT eI)) (biD .sorted [eL (eT eI) x]) (srtTM x) := by
  have hc : ∀ a b : List Int, cmpD (eT eI a) (eT eI b) = some (ordT ordIn a b) := fun a b => by
    show cmpD (.tup (a.map eI)) (.tup (b.map eI)) = _
    have : cmpD (.tup (a.map eI)) (.tup (b.map eI)) = cmpL (a.map eI) (b.map eI) := by simp [cmpD]
    rw [this, cmpL_ints]
  unfold srtTM M.grd
  by_cases hx : x.all (fun r => !r.isEmpty) = true
  · rw [if_pos hx]
    have ok : srtOk (x.map (eT eI)) = true := by
      unfold srtOk
      rw [Bool.and_eq_true, Bool.and_eq_true, Bool.or_eq_true]
      refine ⟨List.all_eq_true.mpr fun d hd => List.all_eq_true.mpr fun d' hd' => ?_, datL_mapD (eqf_T eqf_I) (by decide) x, .inr (List.all_eq_true.mpr fun d hd => ?_)⟩
      · obtain ⟨a, _, rfl⟩ := List.mem_map.mp hd
        obtain ⟨b, _, rfl⟩ := List.mem_map.mp hd'
        rw [hc]; rfl
      · obtain ⟨a, ha, rfl⟩ := List.mem_map.mp hd
        have := List.all_eq_true.mp hx a ha
        cases a with
        | nil => cases this
        | cons i is => rfl
    show (if srtOk (x.map (eT eI)) = true then R.ok (.lst ((x.map (eT eI)).mergeSort leD)) else .bad) = .ok (.lst ((x.mergeSort leTF).map (eT eI)))
    rw [if_pos ok, List.map_mergeSort (s := leD) fun a _ b _ => by
      unfold leD leTF
      rw [hc]
      rfl]
  · rw [if_neg hx]; exact trivial
theorem o_geT (x y : List Int) : Sim eB (cmpR .ge (eT eI x) (eT eI y)) (.ok (!(ordT ordIn x y == .lt))) := by
  have d : ∀ x : List Int, dat (.tup (x.map eI)) = true := fun x => by
    have := datL_mapD eqf_I (by decide) x
    show datN 60 (.tup (x.map eI)) = true
    simpa [datN] using this
  show (if dat (.tup (x.map eI)) = true ∧ dat (.tup (y.map eI)) = true then (match cmpL (x.map eI) (y.map eI) with
    | some o => R.ok (.bl (!(o == Ordering.lt)))
    | none => .bad) else .bad) = _
  rw [if_pos ⟨d x, d y⟩, cmpL_ints]
  rfl
/-- a value taken for a row -/
def unT : D → M (List Int)
  | .tup xs => (match intsOf xs with
    | some ns => .ok ns
    | none => .bad)
  | _ => .bad
theorem intsOf_back : ∀ {xs : List D} {ns : List Int}, intsOf xs = some ns → xs = ns.map eI
  | [], ns, h => by cases h; rfl
  | .int i :: r, ns, h => by
    obtain ⟨t, ht, rfl⟩ := Option.map_eq_some_iff.mp h
    rw [List.map_cons, ← intsOf_back ht]; rfl
  | .non :: _, _, h => by cases h
  | .bl _ :: _, _, h => by cases h
  | .str _ :: _, _, h => by cases h
  | .tup _ :: _, _, h => by cases h
  | .lst _ :: _, _, h => by cases h
  | .frz _ :: _, _, h => by cases h
  | .fn _ :: _, _, h => by cases h
theorem unT_ok (d : D) : Sim (eT eI) (.ok (eD d)) (unT d) := by
  cases d with
  | tup xs =>
    unfold unT
    dsimp only
    cases h : intsOf xs with
    | none => exact trivial
    | some ns =>
      show R.ok (.tup xs) = .ok (.tup (ns.map eI))
      rw [intsOf_back h]
  | _ => exact trivial
theorem unT_T (ns : List Int) : unT (eT eI ns) = .ok ns := by
  show (match intsOf (ns.map eI) with
    | some ns => M.ok ns
    | none => .bad) = _
  rw [intsOf_map]
/-! ### the least of a list of tuples -/
section
variable {α β : Type} {e : α → D} {f : β → D} {c : α → α → Ordering} {d : β → β → Ordering}
structure OrdF {α : Type} (e : α → D) (c : α → α → Ordering) : Prop where
  cmp : ∀ a b, cmpD (e a) (e b) = some (c a b)
theorem ordf_I : OrdF eI ordIn := ⟨fun a b => by simp [eI, cmpD, ordIn]⟩
theorem ordf_TI : OrdF (eT eI) (ordT ordIn) := ⟨fun a b => by
  show cmpD (.tup (a.map eI)) (.tup (b.map eI)) = _
  rw [cmpD]
  exact cmpL_ints a b⟩
theorem ordf_P (p : OrdF e c) (q : OrdF f d) : OrdF (eP e f) (ordP c d) := ⟨fun a b => by
  show cmpD (.tup [e a.1, f a.2]) (.tup [e b.1, f b.2]) = _
  rw [cmpD, cmpL, cmpL, cmpL, p.cmp, q.cmp]
  unfold ordP
  cases c a.1 b.1 <;> cases d a.2 b.2 <;> rfl⟩
def minPM (c : α → α → Ordering) : List α → M α
  | [] => .bad
  | x :: r => .ok (r.foldl (fun m y => if (c y m == Ordering.lt) = true then y else m) x)
theorem fold_mapD (q : OrdF e c) : ∀ (r : List α) (x : α), (r.map e).foldl (fun m y => if (cmpD y m == some Ordering.lt) = true then y else m) (e x) = e (r.foldl (fun m y => if (c y m == Ordering.lt) = true then y else m) x)
  | [], x => rfl
  | y :: r, x => by
    rw [List.map_cons, List.foldl_cons, List.foldl_cons, q.cmp]
    have h : (some (c y x) == some Ordering.lt) = (c y x == Ordering.lt) := by cases c y x <;> rfl
    rw [h]
    by_cases k : (c y x == Ordering.lt) = true
    · rw [if_pos k, if_pos k, fold_mapD q r y]
    · rw [if_neg k, if_neg k, fold_mapD q r x]
theorem o_minP [DecidableEq α] {n : Nat} (q : OrdF e c) (w : EqF n e) (hn' : Nat.ble n 59 = true) (ht : ∀ a, isSomeT (e a) = true) (xs : List α) : Sim e (biD .min [eL e xs]) (minPM c xs) := by
  show Sim e (minD (.lst (xs.map e))) _
  cases xs with
  | nil => exact trivial
  | cons x r =>
    have ok : srtOk ((x :: r).map e) = true := by
      unfold srtOk
      rw [Bool.and_eq_true, Bool.and_eq_true, Bool.or_eq_true]
      refine ⟨List.all_eq_true.mpr fun d hd => List.all_eq_true.mpr fun d' hd' => ?_, datL_mapD w (Nat.le_of_ble_eq_true hn') _, .inr (List.all_eq_true.mpr fun d hd => ?_)⟩
      · obtain ⟨a, _, rfl⟩ := List.mem_map.mp hd
        obtain ⟨b, _, rfl⟩ := List.mem_map.mp hd'
        rw [q.cmp]; rfl
      · obtain ⟨a, _, rfl⟩ := List.mem_map.mp hd
        exact ht a
    have hi : (itemsD (.lst ((x :: r).map e))).bind intsOf = none := by
      show intsOf (e x :: r.map e) = none
      have := ht x
      cases h : e x <;> rw [h] at this <;> first | (cases this; done) | rfl
    unfold minD
    rw [hi]
    show (if srtOk ((x :: r).map e) = true then R.ok ((r.map e).foldl (fun m y => if (cmpD y m == some Ordering.lt) = true then y else m) (e x)) else .bad) = .ok (e _)
    rw [if_pos ok, fold_mapD q]
end
end Dk

/-! Sh: the defs as plain typed functions (printed by gen2.py shared) -/
namespace Sh
open Dk
def c_MOST_LONG : Int := (199)
def c_MOST_WIDE : Int := (9)
def c_MOST_SPOTS : Int := (600)
def c_FIGURES : (List Nat) := [48, 49, 50, 51, 52, 53, 54, 55, 56, 57]
def c_ODD : (List (List Int)) := [[(3), (2), (1), (1)], [(2), (2), (2), (1)], [(2), (1), (2), (2)], [(1), (4), (1), (1)], [(1), (1), (3), (2)], [(1), (2), (3), (1)], [(1), (1), (1), (4)], [(1), (3), (1), (2)], [(1), (2), (1), (3)], [(3), (1), (1), (2)]]
def c_MANNERS : (List (List Nat)) := [[111, 111, 111, 111, 111, 111], [111, 111, 101, 111, 101, 101], [111, 111, 101, 101, 111, 101], [111, 111, 101, 101, 101, 111], [111, 101, 111, 111, 101, 101], [111, 101, 101, 111, 111, 101], [111, 101, 101, 101, 111, 111], [111, 101, 111, 101, 111, 101], [111, 101, 111, 101, 101, 111], [111, 101, 101, 111, 101, 111]]
def c_SIDE : (List Int) := [(1), (1), (1)]
def c_MIDDLE : (List Int) := [(1), (1), (1), (1), (1)]
def c_WIDTHS : Int := (59)
def c_FIVES : (List (List Nat)) := [[110, 110, 119, 119, 110], [119, 110, 110, 110, 119], [110, 119, 110, 110, 119], [119, 119, 110, 110, 110], [110, 110, 119, 110, 119], [119, 110, 119, 110, 110], [110, 119, 119, 110, 110], [110, 110, 110, 119, 119], [119, 110, 110, 119, 110], [110, 119, 110, 119, 110]]
def c_FRONT : (List Int) := [(1), (1), (1), (1)]
def c_MOST_FIGURES : Int := (20)
def c_WIDES : (List Int) := [(2), (3)]
def c_SMALL : (List Nat) := [97, 98, 99, 100, 101, 102, 103, 104, 105, 106, 107, 108, 109, 110, 111, 112, 113, 114, 115, 116, 117, 118, 119, 120, 121, 122, 32, 48, 49, 50, 51, 52, 53, 54, 55, 56, 57, 46, 44, 58, 59, 33, 63, 45, 43, 42, 47, 40, 41, 61]
def c_GREAT : (List Nat) := [65, 66, 67, 68, 69, 70, 71, 72, 73, 74, 75, 76, 77, 78, 79, 80, 81, 82, 83, 84, 85, 86, 87, 88, 89, 90, 32, 48, 49, 50, 51, 52, 53, 54, 55, 56, 57, 46, 44, 58, 59, 33, 63, 45, 43, 42, 47, 40, 41, 61]
def c_SETS : (List (List Nat)) := [[115, 109, 97, 108, 108], [103, 114, 101, 97, 116], [100, 111, 117, 98, 108, 101]]
def c_LEADS : Int := (100)
def c_SHIFT : Int := (103)
def c_BEGINS : Int := (104)
def c_END : Int := (107)
def c_LAST : (List Int) := [(2)]
def c_BY : Int := (103)
def c_SIGNS : (List (List Nat)) := [[49, 49, 49, 49, 52, 51], [49, 49, 49, 50, 50, 52], [49, 49, 49, 50, 52, 50], [49, 49, 49, 51, 50, 51], [49, 49, 49, 51, 52, 49], [49, 49, 49, 52, 50, 50], [49, 49, 50, 49, 51, 51], [49, 49, 50, 50, 49, 52], [49, 49, 50, 50, 51, 50], [49, 49, 50, 51, 49, 51], [49, 49, 50, 51, 51, 49], [49, 49, 50, 52, 49, 50], [49, 49, 51, 49, 50, 51], [49, 49, 51, 49, 52, 49], [49, 49, 51, 50, 50, 50], [49, 49, 51, 51, 50, 49], [49, 49, 52, 49, 49, 51], [49, 49, 52, 49, 51, 49], [49, 49, 52, 50, 49, 50], [49, 49, 52, 51, 49, 49], [49, 50, 49, 49, 50, 52], [49, 50, 49, 49, 52, 50], [49, 50, 49, 50, 50, 51], [49, 50, 49, 50, 52, 49], [49, 50, 49, 51, 50, 50], [49, 50, 49, 52, 50, 49], [49, 50, 50, 49, 49, 52], [49, 50, 50, 49, 51, 50], [49, 50, 50, 50, 49, 51], [49, 50, 50, 50, 51, 49], [49, 50, 50, 51, 49, 50], [49, 50, 50, 52, 49, 49], [49, 50, 51, 49, 50, 50], [49, 50, 51, 50, 50, 49], [49, 50, 52, 49, 49, 50], [49, 50, 52, 50, 49, 49], [49, 51, 49, 49, 50, 51], [49, 51, 49, 49, 52, 49], [49, 51, 49, 50, 50, 50], [49, 51, 49, 51, 50, 49], [49, 51, 50, 49, 49, 51], [49, 51, 50, 49, 51, 49], [49, 51, 50, 50, 49, 50], [49, 51, 50, 51, 49, 49], [49, 51, 51, 49, 50, 49], [49, 51, 52, 49, 49, 49], [49, 52, 49, 49, 50, 50], [49, 52, 49, 50, 50, 49], [49, 52, 50, 49, 49, 50], [49, 52, 50, 50, 49, 49], [50, 49, 49, 49, 51, 51], [50, 49, 49, 50, 49, 52], [50, 49, 49, 50, 51, 50], [50, 49, 49, 51, 49, 51], [50, 49, 49, 51, 51, 49], [50, 49, 49, 52, 49, 50], [50, 49, 50, 49, 50, 51], [50, 49, 50, 49, 52, 49], [50, 49, 50, 50, 50, 50], [50, 49, 50, 51, 50, 49], [50, 49, 51, 49, 49, 51], [50, 49, 51, 49, 51, 49], [50, 49, 51, 50, 49, 50], [50, 49, 51, 51, 49, 49], [50, 49, 52, 49, 50, 49], [50, 50, 49, 49, 49, 52], [50, 50, 49, 49, 51, 50], [50, 50, 49, 50, 49, 51], [50, 50, 49, 50, 51, 49], [50, 50, 49, 51, 49, 50], [50, 50, 49, 52, 49, 49], [50, 50, 50, 49, 50, 50], [50, 50, 50, 50, 50, 49], [50, 50, 51, 49, 49, 50], [50, 50, 51, 50, 49, 49], [50, 51, 49, 49, 49, 51], [50, 51, 49, 49, 51, 49], [50, 51, 49, 50, 49, 50], [50, 51, 49, 51, 49, 49], [50, 51, 50, 49, 50, 49], [50, 51, 51, 49, 49, 49], [50, 52, 49, 49, 49, 50], [50, 52, 49, 50, 49, 49], [51, 49, 49, 49, 50, 51], [51, 49, 49, 49, 52, 49], [51, 49, 49, 50, 50, 50], [51, 49, 49, 51, 50, 49], [51, 49, 50, 49, 49, 51], [51, 49, 50, 49, 51, 49], [51, 49, 50, 50, 49, 50], [51, 49, 50, 51, 49, 49], [51, 49, 51, 49, 50, 49], [51, 49, 52, 49, 49, 49], [51, 50, 49, 49, 50, 50], [51, 50, 49, 50, 50, 49], [51, 50, 50, 49, 49, 50], [51, 50, 50, 50, 49, 49], [51, 51, 49, 49, 50, 49], [51, 51, 50, 49, 49, 49], [52, 49, 49, 49, 49, 51], [52, 49, 49, 49, 51, 49], [52, 49, 49, 50, 49, 50], [52, 49, 49, 51, 49, 49], [52, 49, 50, 49, 50, 49], [52, 49, 51, 49, 49, 49], [52, 50, 49, 49, 49, 50], [52, 50, 49, 50, 49, 49], [52, 51, 49, 49, 49, 49]]
def c_MOST_SIGNS : Int := (24)
def c_THIRTEEN_SPOTS : Int := (95)
def c_RIMS : (List ((List Nat) × Int)) := [([116, 104, 105, 114, 116, 101, 101, 110], (7)), ([112, 97, 105, 114], (5)), ([101, 108, 101, 118, 101, 110], (10))]
def c_LEAST_RIM : Int := (5)
def c_SURE : Int := (10)
def c_KINDS : (List (List Nat)) := [[116, 104, 105, 114, 116, 101, 101, 110], [112, 97, 105, 114], [101, 108, 101, 118, 101, 110]]
def c_MOST_CODES : Int := (6)
def c_RIM : Int := (10)
def p_is_whole (v_thing : Int) (v_low : Int) (v_high : Int) : M Bool :=
  ((M.ok v_thing).bnd fun _ => M.ok true).bnd fun x8 => if x8 = true then (((M.ok v_thing).bnd fun _ => M.ok false).bnd fun x3 => M.ok (!x3)).bnd fun x7 => if x7 = true then (M.ok v_low).bnd fun x4 => (M.ok v_thing).bnd fun x5 => if decide (x4 ≤ x5) = true then (M.ok v_high).bnd fun x6 => M.ok (decide (x5 ≤ x6)) else M.ok false else M.ok false else M.ok false
def p_is_picture (v_thing : (List Nat)) : M Bool :=
  ((M.ok v_thing).bnd fun _ => M.ok true).bnd fun x12 => if x12 = true then (((M.ok v_thing).bnd fun x2 => M.ok (x2.length : Int)).bnd fun x3 => (M.ok c_MOST_SPOTS).bnd fun x4 => M.ok (decide (x3 ≤ x4))).bnd fun x11 => if x11 = true then (((M.ok v_thing).bnd fun x5 => M.ok (chars x5)).bnd fun x9 => mapM (fun y6 => (M.ok y6).bnd fun x7 => (M.ok ([35, 46] : List Nat)).bnd fun x8 => inSM x7 x8) x9).bnd fun x10 => M.ok (x10.all id) else M.ok false else M.ok false
def h_cell (v_script : (List Int)) (v_k : Int) : M Int :=
  ((M.ok v_k).bnd fun x2 => ((M.ok v_script).bnd fun x1 => M.ok (x1.length : Int)).bnd fun x3 => M.ok (decide (x2 < x3))).bnd fun c6 => if c6 = true then
  (M.ok v_script).bnd fun x4 => (M.ok v_k).bnd fun x5 => ixM x4 x5
  else
  M.ok (0 : Int)
def h_mix (v_cell_here : Int) (v_prime : Int) (v_many : Int) : M Int :=
  (((M.ok v_cell_here).bnd fun x1 => (M.ok (48271 : Int)).bnd fun x2 => mulIM x1 x2).bnd fun x3 => (M.ok v_prime).bnd fun x4 => modM x3 x4).bnd fun v_blend_5 =>
  (((M.ok v_blend_5).bnd fun x8 => ((M.ok v_blend_5).bnd fun x6 => (M.ok (7 : Int)).bnd fun x7 => M.ok (x6 + x7)).bnd fun x9 => mulIM x8 x9).bnd fun x10 => (M.ok v_prime).bnd fun x11 => modM x10 x11).bnd fun x12 => (M.ok v_many).bnd fun x13 => modM x12 x13
def h_spots (v_row_here : (List Int)) : M (List Nat) :=
  (M.ok ([] : List Nat)).bnd fun v_gathered_1 =>
  (((M.ok v_row_here).bnd fun x2 => M.ok x2).bnd fun x3 => M.ok (enumF 0 x3)).bnd fun x22 => (fold (fun (a6 : (Int × Int)) (s4 : ((List Nat))) =>
  ((M.ok s4).bnd fun x17 => ((((M.ok ([35] : List Nat)).bnd fun x9 => ((M.ok ([46] : List Nat)).bnd fun x7 => (M.ok []).bnd fun x8 => M.ok (x7 :: x8)).bnd fun x10 => M.ok (x9 :: x10)).bnd fun x13 => ((M.ok a6.1).bnd fun x11 => (M.ok (2 : Int)).bnd fun x12 => modM x11 x12).bnd fun x14 => ixM x13 x14).bnd fun x15 => (M.ok a6.2).bnd fun x16 => mulSM x15 x16).bnd fun x18 => catM x17 x18).bnd fun v_gathered_19 =>
  M.ok v_gathered_19) x22 v_gathered_1).bnd fun s20 =>
  M.ok s20
def p_is_row (v_thing : (List Int)) : M Bool :=
  ((((M.ok v_thing).bnd fun _ => M.ok true).bnd fun x2 => M.ok (!x2)).bnd fun x12 => if x12 = true then M.ok true else ((((M.ok v_thing).bnd fun x3 => M.ok (x3.length : Int)).bnd fun x4 => (M.ok (2 : Int)).bnd fun x5 => modM x4 x5).bnd fun x6 => (M.ok (0 : Int)).bnd fun x7 => M.ok (decide (x6 = x7))).bnd fun x11 => if x11 = true then M.ok true else ((M.ok v_thing).bnd fun x8 => M.ok (x8.length : Int)).bnd fun x9 => (M.ok c_MOST_LONG).bnd fun x10 => M.ok (decide (x10 < x9))).bnd fun c20 => if c20 = true then
  M.ok false
  else
  (((M.ok v_thing).bnd fun x13 => M.ok x13).bnd fun x18 => mapM (fun y14 => (M.ok y14).bnd fun x15 => (M.ok (1 : Int)).bnd fun x16 => (M.ok c_MOST_WIDE).bnd fun x17 => p_is_whole x15 x16 x17) x18).bnd fun x19 => M.ok (x19.all id)
def h_row (v_cell_here : Int) (v_most : Int) (v_wide : Int) : M (List Int) :=
  ((M.ok (1 : Int)).bnd fun x6 => ((M.ok (2 : Int)).bnd fun x4 => ((M.ok v_cell_here).bnd fun x1 => (M.ok (9973 : Int)).bnd fun x2 => (M.ok v_most).bnd fun x3 => h_mix x1 x2 x3).bnd fun x5 => mulIM x4 x5).bnd fun x7 => M.ok (x6 + x7)).bnd fun v_long_8 =>
  (((M.ok v_long_8).bnd fun x9 => rngM 0 x9 1).bnd fun x20 => mapM (fun y10 => (M.ok (1 : Int)).bnd fun x18 => (((M.ok v_cell_here).bnd fun x13 => ((M.ok (7 : Int)).bnd fun x11 => (M.ok y10).bnd fun x12 => mulIM x11 x12).bnd fun x14 => M.ok (x13 + x14)).bnd fun x15 => (M.ok (9967 : Int)).bnd fun x16 => (M.ok v_wide).bnd fun x17 => h_mix x15 x16 x17).bnd fun x19 => M.ok (x18 + x19)) x20).bnd fun x21 => M.ok x21
def p_total (v_row : (List Int)) : M Int :=
  (M.ok v_row).bnd fun x1 => M.ok x1.sum
def p_spots_of (v_row : (List Int)) : M (List Nat) :=
  (M.ok ([] : List Nat)).bnd fun x11 => ((((M.ok v_row).bnd fun x1 => M.ok x1).bnd fun x2 => M.ok (enumF 0 x2)).bnd fun x10 => mapM (fun y3 => ((M.ok ([35, 46] : List Nat)).bnd fun x6 => ((M.ok y3.1).bnd fun x4 => (M.ok (2 : Int)).bnd fun x5 => modM x4 x5).bnd fun x7 => ixSM x6 x7).bnd fun x8 => (M.ok y3.2).bnd fun x9 => mulSM x8 x9) x10).bnd fun x12 => joinM x11 x12
def p_runs (v_picture : (List Nat)) : M (List Int) :=
  ((M.ok [] : M (List Int))).bnd fun v_found_1 =>
  (((M.ok v_picture).bnd fun x2 => M.ok (chars x2)).bnd fun x3 => M.ok (enumF 0 x3)).bnd fun x31 => (fold (fun (a6 : (Int × (List Nat))) (s4 : ((List Int))) =>
  (((M.ok a6.1).bnd fun x7 => (M.ok (0 : Int)).bnd fun x8 => M.ok (decide (x8 < x7))).bnd fun x15 => if x15 = true then ((M.ok v_picture).bnd fun x11 => ((M.ok a6.1).bnd fun x9 => (M.ok (1 : Int)).bnd fun x10 => M.ok (x9 - x10)).bnd fun x12 => ixSM x11 x12).bnd fun x13 => (M.ok a6.2).bnd fun x14 => M.ok (decide (x13 = x14)) else M.ok false).bnd fun c27 => if c27 = true then
  (((M.ok s4).bnd fun x17 => ((M.ok (1 : Int)).bnd fun x16 => M.ok (-x16)).bnd fun x18 => ixM x17 x18).bnd fun x19 => (M.ok (1 : Int)).bnd fun x20 => M.ok (x19 + x20)).bnd fun x23 => ((M.ok (1 : Int)).bnd fun x21 => M.ok (-x21)).bnd fun x24 => (setXM s4 x24 x23).bnd fun v_found_22 =>
  M.ok v_found_22
  else
  (M.ok (1 : Int)).bnd fun x26 => M.grd (s4.length < lim) ((fun v_found_25 =>
  M.ok v_found_25) (s4 ++ [x26]))) x31 v_found_1).bnd fun s28 =>
  (M.ok s28).bnd fun x30 => M.ok x30
def p_turned (v_row : (List Int)) : M (List Int) :=
  (M.ok v_row).bnd fun x1 => M.ok x1.reverse
def p_wider (v_row : (List Int)) (v_times : Int) : M (List Int) :=
  (((M.ok v_row).bnd fun x1 => M.ok x1).bnd fun x5 => mapM (fun y2 => (M.ok y2).bnd fun x3 => (M.ok v_times).bnd fun x4 => mulIM x3 x4) x5).bnd fun x6 => M.ok x6
def p_bars (v_row : (List Int)) : M (List Int) :=
  (M.ok v_row).bnd fun x2 => ((M.ok (0 : Int)).bnd fun x1 => M.ok (some x1)).bnd fun x3 => (M.ok none).bnd fun x4 => M.ok (half (cut x2 x3 x4))
def p_gaps (v_row : (List Int)) : M (List Int) :=
  (M.ok v_row).bnd fun x2 => ((M.ok (1 : Int)).bnd fun x1 => M.ok (some x1)).bnd fun x3 => (M.ok none).bnd fun x4 => M.ok (half (cut x2 x3 x4))
def h_runs (v_spots_here : (List Nat)) : M (List Int) :=
  ((M.ok [] : M (List Int))).bnd fun v_gathered_1 =>
  (M.ok ([] : List Nat)).bnd fun v_last_2 =>
  ((M.ok v_spots_here).bnd fun x3 => M.ok (chars x3)).bnd fun x26 => (fold (fun (a6 : (List Nat)) (s4 : ((List Int) × (List Nat))) =>
  ((M.ok a6).bnd fun x7 => (M.ok s4.2).bnd fun x8 => M.ok (decide (x7 = x8))).bnd fun c22 => if c22 = true then
  (((M.ok s4.1).bnd fun x10 => ((M.ok (1 : Int)).bnd fun x9 => M.ok (-x9)).bnd fun x11 => ixM x10 x11).bnd fun x12 => (M.ok (1 : Int)).bnd fun x13 => M.ok (x12 + x13)).bnd fun x16 => ((M.ok (1 : Int)).bnd fun x14 => M.ok (-x14)).bnd fun x17 => (setXM s4.1 x17 x16).bnd fun v_gathered_15 =>
  (M.ok a6).bnd fun v_last_18 =>
  M.ok (v_gathered_15, v_last_18)
  else
  (M.ok (1 : Int)).bnd fun x20 => M.grd (s4.1.length < lim) ((fun v_gathered_19 =>
  (M.ok a6).bnd fun v_last_21 =>
  M.ok (v_gathered_19, v_last_21)) (s4.1 ++ [x20]))) x26 (v_gathered_1, v_last_2)).bnd fun s23 =>
  (M.ok s23.1).bnd fun x25 => M.ok x25
def p_picture_of (v_row : (List Int)) (v_rim : Int) : M (List Nat) :=
  (((M.ok ([46] : List Nat)).bnd fun x1 => (M.ok v_rim).bnd fun x2 => mulSM x1 x2).bnd fun x4 => ((M.ok v_row).bnd fun x3 => p_spots_of x3).bnd fun x5 => catM x4 x5).bnd fun x8 => ((M.ok ([46] : List Nat)).bnd fun x6 => (M.ok v_rim).bnd fun x7 => mulSM x6 x7).bnd fun x9 => catM x8 x9
def p_row_of (v_picture : (List Nat)) : M (List Int) :=
  ((M.ok v_picture).bnd fun x1 => (M.ok ([46] : List Nat)).bnd fun x2 => M.ok (rstripS x2 (lstripS x2 x1))).bnd fun v_inner_3 =>
  ((M.ok v_inner_3).bnd fun x4 => (M.ok ([] : List Nat)).bnd fun x5 => M.ok (decide (x4 = x5))).bnd fun c7 => if c7 = true then
  M.exc 1
  else
  (M.ok v_inner_3).bnd fun x6 => p_runs x6
def p_weighed (v_figures : (List Nat)) : M Int :=
  (((((M.ok v_figures).bnd fun x1 => M.ok x1.reverse).bnd fun x2 => M.ok (chars x2)).bnd fun x3 => M.ok (enumF 0 x3)).bnd fun x16 => mapM (fun y4 => ((M.ok y4.2).bnd fun x5 => intSM x5).bnd fun x14 => (((M.ok (1 : Int)).bnd fun x8 => ((M.ok (3 : Int)).bnd fun x6 => (M.ok []).bnd fun x7 => M.ok (x6 :: x7)).bnd fun x9 => M.ok (x8 :: x9)).bnd fun x12 => ((M.ok y4.1).bnd fun x10 => (M.ok (2 : Int)).bnd fun x11 => modM x10 x11).bnd fun x13 => ixM x12 x13).bnd fun x15 => mulIM x14 x15) x16).bnd fun x17 => M.ok x17.sum
def p_exchanged (v_figures : (List Nat)) (v_k : Int) : M (List Nat) :=
  ((((M.ok v_figures).bnd fun x2 => (M.ok none).bnd fun x3 => ((M.ok v_k).bnd fun x1 => M.ok (some x1)).bnd fun x4 => M.ok (cut x2 x3 x4)).bnd fun x9 => ((M.ok v_figures).bnd fun x7 => ((M.ok v_k).bnd fun x5 => (M.ok (1 : Int)).bnd fun x6 => M.ok (x5 + x6)).bnd fun x8 => ixSM x7 x8).bnd fun x10 => catM x9 x10).bnd fun x13 => ((M.ok v_figures).bnd fun x11 => (M.ok v_k).bnd fun x12 => ixSM x11 x12).bnd fun x14 => catM x13 x14).bnd fun x21 => ((M.ok v_figures).bnd fun x18 => (((M.ok v_k).bnd fun x15 => (M.ok (2 : Int)).bnd fun x16 => M.ok (x15 + x16)).bnd fun x17 => M.ok (some x17)).bnd fun x19 => (M.ok none).bnd fun x20 => M.ok (cut x18 x19 x20)).bnd fun x22 => catM x21 x22
def p_mod_check (v_values : (List Int)) (v_by : Int) : M Int :=
  (((M.ok v_values).bnd fun x1 => (M.ok (0 : Int)).bnd fun x2 => ixM x1 x2).bnd fun x10 => (((((M.ok v_values).bnd fun x3 => M.ok x3).bnd fun x4 => M.ok (enumF 0 x4)).bnd fun x8 => mapM (fun y5 => (M.ok y5.1).bnd fun x6 => (M.ok y5.2).bnd fun x7 => mulIM x6 x7) x8).bnd fun x9 => M.ok x9.sum).bnd fun x11 => M.ok (x10 + x11)).bnd fun x12 => (M.ok v_by).bnd fun x13 => modM x12 x13
def h_sum (v_figures_here : (List Nat)) : M Int :=
  (M.ok (0 : Int)).bnd fun v_gathered_1 =>
  (((M.ok v_figures_here).bnd fun x2 => M.ok (x2.length : Int)).bnd fun x3 => rngM 0 x3 1).bnd fun x32 => (fold (fun (a6 : Int) (s4 : (Int)) =>
  ((M.ok ([48, 49, 50, 51, 52, 53, 54, 55, 56, 57] : List Nat)).bnd fun x14 => ((M.ok v_figures_here).bnd fun x12 => ((((M.ok v_figures_here).bnd fun x7 => M.ok (x7.length : Int)).bnd fun x8 => (M.ok (1 : Int)).bnd fun x9 => M.ok (x8 - x9)).bnd fun x10 => (M.ok a6).bnd fun x11 => M.ok (x10 - x11)).bnd fun x13 => ixSM x12 x13).bnd fun x15 => idxM x14 x15).bnd fun v_figure_16 =>
  ((M.ok s4).bnd fun x27 => ((M.ok v_figure_16).bnd fun x25 => (((M.ok (1 : Int)).bnd fun x19 => ((M.ok (3 : Int)).bnd fun x17 => (M.ok []).bnd fun x18 => M.ok (x17 :: x18)).bnd fun x20 => M.ok (x19 :: x20)).bnd fun x23 => ((M.ok a6).bnd fun x21 => (M.ok (2 : Int)).bnd fun x22 => modM x21 x22).bnd fun x24 => ixM x23 x24).bnd fun x26 => mulIM x25 x26).bnd fun x28 => M.ok (x27 + x28)).bnd fun v_gathered_29 =>
  M.ok v_gathered_29) x32 v_gathered_1).bnd fun s30 =>
  M.ok s30
def p_check_of (v_figures : (List Nat)) : M (List Nat) :=
  (M.ok c_FIGURES).bnd fun x8 => (((M.ok (0 : Int)).bnd fun x4 => (((M.ok v_figures).bnd fun x1 => (M.ok ([48] : List Nat)).bnd fun x2 => catM x1 x2).bnd fun x3 => p_weighed x3).bnd fun x5 => M.ok (x4 - x5)).bnd fun x6 => (M.ok (10 : Int)).bnd fun x7 => modM x6 x7).bnd fun x9 => ixSM x8 x9
def p_fits (v_figures : (List Nat)) : M Bool :=
  (((M.ok v_figures).bnd fun x1 => p_weighed x1).bnd fun x2 => (M.ok (10 : Int)).bnd fun x3 => modM x2 x3).bnd fun x4 => (M.ok (0 : Int)).bnd fun x5 => M.ok (decide (x4 = x5))
def h_figures (v_cell_here : Int) (v_many : Int) : M (List Nat) :=
  (M.ok ([] : List Nat)).bnd fun x13 => (((M.ok v_many).bnd fun x1 => rngM 0 x1 1).bnd fun x12 => mapM (fun y2 => (M.ok ([48, 49, 50, 51, 52, 53, 54, 55, 56, 57] : List Nat)).bnd fun x10 => (((M.ok v_cell_here).bnd fun x5 => ((M.ok (11 : Int)).bnd fun x3 => (M.ok y2).bnd fun x4 => mulIM x3 x4).bnd fun x6 => M.ok (x5 + x6)).bnd fun x7 => (M.ok (9949 : Int)).bnd fun x8 => (M.ok (10 : Int)).bnd fun x9 => h_mix x7 x8 x9).bnd fun x11 => ixSM x10 x11) x12).bnd fun x14 => joinM x13 x14
def h_check (v_figures_here : (List Nat)) : M (List Nat) :=
  (((M.ok ([48, 49, 50, 51, 52, 53, 54, 55, 56, 57] : List Nat)).bnd fun x1 => M.ok (chars x1)).bnd fun x3 => cmpM (fun y2 => ((((M.ok v_figures_here).bnd fun x4 => (M.ok y2).bnd fun x5 => catM x4 x5).bnd fun x6 => h_sum x6).bnd fun x7 => (M.ok (10 : Int)).bnd fun x8 => modM x7 x8).bnd fun x9 => (M.ok (0 : Int)).bnd fun x10 => M.ok (decide (x9 = x10))) (fun y2 => M.ok y2) x3).bnd fun x11 => (M.ok (0 : Int)).bnd fun x12 => ixM x11 x12
def p_lacking (v_text : (List Nat)) : M (List Nat) :=
  lakP p_fits c_FIGURES v_text
def p_silent (v_figures : (List Nat)) : M (List Int) :=
  ((M.ok [] : M (List Int))).bnd fun v_found_1 =>
  ((((M.ok v_figures).bnd fun x2 => M.ok (x2.length : Int)).bnd fun x3 => (M.ok (1 : Int)).bnd fun x4 => M.ok (x3 - x4)).bnd fun x5 => rngM 0 x5 1).bnd fun x30 => (fold (fun (a8 : Int) (s6 : ((List Int))) =>
  ((((M.ok v_figures).bnd fun x9 => (M.ok a8).bnd fun x10 => ixSM x9 x10).bnd fun x15 => ((M.ok v_figures).bnd fun x13 => ((M.ok a8).bnd fun x11 => (M.ok (1 : Int)).bnd fun x12 => M.ok (x11 + x12)).bnd fun x14 => ixSM x13 x14).bnd fun x16 => M.ok (!decide (x15 = x16))).bnd fun x23 => if x23 = true then (((M.ok v_figures).bnd fun x17 => (M.ok a8).bnd fun x18 => p_exchanged x17 x18).bnd fun x19 => p_fits x19).bnd fun x21 => ((M.ok v_figures).bnd fun x20 => p_fits x20).bnd fun x22 => M.ok (decide (x21 = x22)) else M.ok false).bnd fun c26 => if c26 = true then
  (M.ok a8).bnd fun x25 => M.grd (s6.length < lim) ((fun v_found_24 =>
  M.ok v_found_24) (s6 ++ [x25]))
  else
  M.ok s6) x30 v_found_1).bnd fun s27 =>
  (M.ok s27).bnd fun x29 => M.ok x29
def p_are_figures (v_text : (List Nat)) : M Bool :=
  (((M.ok v_text).bnd fun x1 => M.ok (chars x1)).bnd fun x5 => mapM (fun y2 => (M.ok y2).bnd fun x3 => (M.ok c_FIGURES).bnd fun x4 => inSM x3 x4) x5).bnd fun x6 => M.ok (x6.all id)
def p_fours (v_row : (List Int)) (v_begin : Int) : M (List (List Int)) :=
  ((M.ok v_begin).bnd fun x3 => ((M.ok v_begin).bnd fun x1 => (M.ok (24 : Int)).bnd fun x2 => M.ok (x1 + x2)).bnd fun x4 => (M.ok (4 : Int)).bnd fun x5 => rngM x3 x4 x5).bnd fun x14 => mapM (fun y6 => (M.ok v_row).bnd fun x11 => ((M.ok y6).bnd fun x7 => M.ok (some x7)).bnd fun x12 => (((M.ok y6).bnd fun x8 => (M.ok (4 : Int)).bnd fun x9 => M.ok (x8 + x9)).bnd fun x10 => M.ok (some x10)).bnd fun x13 => M.ok (cut x11 x12 x13)) x14
def p_left_figures (v_some : (List (List Int))) : M (Option (List Nat)) :=
  ((M.ok ([] : List Nat)).bnd fun x1 => (M.ok ([] : List Nat)).bnd fun x2 => M.ok (x1, x2)).bnd fun u3 =>
  ((M.ok v_some).bnd fun x4 => M.ok x4).bnd fun x48 => (loop (fun (a7 : (List Int)) (s5 : ((List Nat) × (List Nat))) =>
  ((M.ok a7).bnd fun x8 => (M.ok c_ODD).bnd fun x9 => M.ok (memB x8 x9)).bnd fun c36 => if c36 = true then
  ((M.ok s5.1).bnd fun x14 => ((M.ok c_FIGURES).bnd fun x12 => ((M.ok c_ODD).bnd fun x10 => (M.ok a7).bnd fun x11 => idxTM x10 x11).bnd fun x13 => ixSM x12 x13).bnd fun x15 => catM x14 x15).bnd fun v_found_16 =>
  ((M.ok s5.2).bnd fun x17 => (M.ok ([111] : List Nat)).bnd fun x18 => catM x17 x18).bnd fun v_manners_19 =>
  M.ok (Stp.nx (v_found_16, v_manners_19))
  else
  (((M.ok a7).bnd fun x20 => M.ok x20.reverse).bnd fun x21 => (M.ok c_ODD).bnd fun x22 => M.ok (memB x21 x22)).bnd fun c35 => if c35 = true then
  ((M.ok s5.1).bnd fun x28 => ((M.ok c_FIGURES).bnd fun x26 => ((M.ok c_ODD).bnd fun x24 => ((M.ok a7).bnd fun x23 => M.ok x23.reverse).bnd fun x25 => idxTM x24 x25).bnd fun x27 => ixSM x26 x27).bnd fun x29 => catM x28 x29).bnd fun v_found_30 =>
  ((M.ok s5.2).bnd fun x31 => (M.ok ([101] : List Nat)).bnd fun x32 => catM x31 x32).bnd fun v_manners_33 =>
  M.ok (Stp.nx (v_found_30, v_manners_33))
  else
  (M.ok none).bnd fun x34 => M.ok (Stp.rt x34)) x48 (u3.1, u3.2)).bnd fun r49 => onS r49 (fun s37 =>
  ((M.ok s37.2).bnd fun x39 => (M.ok c_MANNERS).bnd fun x40 => (M.ok (memB x39 x40)).bnd fun b => M.ok (!b)).bnd fun c47 => if c47 = true then
  M.ok none
  else
  ((((M.ok c_FIGURES).bnd fun x43 => ((M.ok c_MANNERS).bnd fun x41 => (M.ok s37.2).bnd fun x42 => idxTM x41 x42).bnd fun x44 => ixSM x43 x44).bnd fun x45 => (M.ok s37.1).bnd fun x46 => catM x45 x46).bnd fun a => M.ok (some a))) (fun a => a)
def p_thirteen_row_c4 (v_found : (List Int)) : M ((List Int)) :=
  (M.ok v_found).bnd fun x67 => (M.ok c_SIDE).bnd fun x68 => catM x67 x68
def p_thirteen_row_c3 (v_figures : (List Nat)) (v_found : (List Int)) : M ((List Int)) :=
  ((M.ok v_found).bnd fun x48 => (M.ok c_MIDDLE).bnd fun x49 => catM x48 x49).bnd fun v_found_50 =>
  (((M.ok v_figures).bnd fun x52 => ((M.ok (7 : Int)).bnd fun x51 => M.ok (some x51)).bnd fun x53 => (M.ok none).bnd fun x54 => M.ok (cut x52 x53 x54)).bnd fun x55 => M.ok (chars x55)).bnd fun x69 => (fold (fun (a58 : (List Nat)) (s56 : ((List Int))) =>
  ((M.ok s56).bnd fun x62 => ((M.ok c_ODD).bnd fun x60 => ((M.ok a58).bnd fun x59 => intSM x59).bnd fun x61 => ixM x60 x61).bnd fun x63 => catM x62 x63).bnd fun v_found_64 =>
  M.ok v_found_64) x69 v_found_50).bnd fun s65 =>
  p_thirteen_row_c4 (s65)
def p_thirteen_row_c2 (v_figures : (List Nat)) : M ((List Int)) :=
  (M.ok c_SIDE).bnd fun v_found_19 =>
  (((M.ok v_figures).bnd fun x22 => ((M.ok (1 : Int)).bnd fun x20 => M.ok (some x20)).bnd fun x23 => ((M.ok (7 : Int)).bnd fun x21 => M.ok (some x21)).bnd fun x24 => M.ok (cut x22 x23 x24)).bnd fun x30 => ((M.ok c_MANNERS).bnd fun x28 => (((M.ok v_figures).bnd fun x25 => (M.ok (0 : Int)).bnd fun x26 => ixSM x25 x26).bnd fun x27 => intSM x27).bnd fun x29 => ixM x28 x29).bnd fun x31 => M.ok ((chars x30).zip (chars x31))).bnd fun x70 => (fold (fun (a34 : ((List Nat) × (List Nat))) (s32 : ((List Int))) =>
  ((M.ok c_ODD).bnd fun x36 => ((M.ok a34.1).bnd fun x35 => intSM x35).bnd fun x37 => ixM x36 x37).bnd fun v_widths_38 =>
  ((M.ok s32).bnd fun x43 => (((M.ok a34.2).bnd fun x39 => (M.ok ([111] : List Nat)).bnd fun x40 => M.ok (decide (x39 = x40))).bnd fun x42 => if x42 = true then M.ok v_widths_38 else (M.ok v_widths_38).bnd fun x41 => M.ok x41.reverse).bnd fun x44 => catM x43 x44).bnd fun v_found_45 =>
  M.ok v_found_45) x70 v_found_19).bnd fun s46 =>
  p_thirteen_row_c3 (v_figures) (s46)
def p_thirteen_row_c1 (v_figures : (List Nat)) : M ((List Int)) :=
  ((((M.ok v_figures).bnd fun x10 => M.ok (x10.length : Int)).bnd fun x11 => (M.ok (13 : Int)).bnd fun x12 => M.ok (!decide (x11 = x12))).bnd fun x18 => if x18 = true then M.ok true else (((M.ok v_figures).bnd fun x13 => p_are_figures x13).bnd fun x14 => M.ok (!x14)).bnd fun x17 => if x17 = true then M.ok true else ((M.ok v_figures).bnd fun x15 => p_fits x15).bnd fun x16 => M.ok (!x16)).bnd fun c71 => if c71 = true then
  M.exc 2
  else
  p_thirteen_row_c2 (v_figures)
def p_thirteen_row (v_figures : (List Nat)) : M (List Int) :=
  ((((M.ok v_figures).bnd fun x1 => M.ok (x1.length : Int)).bnd fun x2 => (M.ok (12 : Int)).bnd fun x3 => M.ok (decide (x2 = x3))).bnd fun x5 => if x5 = true then (M.ok v_figures).bnd fun x4 => p_are_figures x4 else M.ok false).bnd fun c196 => if c196 = true then
  ((M.ok v_figures).bnd fun x7 => ((M.ok v_figures).bnd fun x6 => p_check_of x6).bnd fun x8 => catM x7 x8).bnd fun v_figures_9 =>
  p_thirteen_row_c1 (v_figures_9)
  else
  p_thirteen_row_c1 (v_figures)
def p_straight_thirteen (v_row : (List Int)) : M (Option (List Nat)) :=
  ((((M.ok v_row).bnd fun x1 => M.ok (x1.length : Int)).bnd fun x2 => (M.ok c_WIDTHS).bnd fun x3 => M.ok (!decide (x2 = x3))).bnd fun x25 => if x25 = true then M.ok true else (((M.ok v_row).bnd fun x5 => (M.ok none).bnd fun x6 => ((M.ok (3 : Int)).bnd fun x4 => M.ok (some x4)).bnd fun x7 => M.ok (cut x5 x6 x7)).bnd fun x8 => (M.ok c_SIDE).bnd fun x9 => M.ok (!decide (x8 = x9))).bnd fun x24 => if x24 = true then M.ok true else (((M.ok v_row).bnd fun x12 => ((M.ok (27 : Int)).bnd fun x10 => M.ok (some x10)).bnd fun x13 => ((M.ok (32 : Int)).bnd fun x11 => M.ok (some x11)).bnd fun x14 => M.ok (cut x12 x13 x14)).bnd fun x15 => (M.ok c_MIDDLE).bnd fun x16 => M.ok (!decide (x15 = x16))).bnd fun x23 => if x23 = true then M.ok true else ((M.ok v_row).bnd fun x18 => ((M.ok (56 : Int)).bnd fun x17 => M.ok (some x17)).bnd fun x19 => (M.ok none).bnd fun x20 => M.ok (cut x18 x19 x20)).bnd fun x21 => (M.ok c_SIDE).bnd fun x22 => M.ok (!decide (x21 = x22))).bnd fun c58 => if c58 = true then
  M.ok none
  else
  (((M.ok v_row).bnd fun x26 => (M.ok (3 : Int)).bnd fun x27 => p_fours x26 x27).bnd fun x28 => p_left_figures x28).bnd fun v_left_29 =>
  ((M.ok v_row).bnd fun x30 => (M.ok (32 : Int)).bnd fun x31 => p_fours x30 x31).bnd fun v_right_32 =>
  (((M.ok v_left_29).bnd fun x33 => M.ok x33.isNone).bnd fun x41 => if x41 = true then M.ok true else ((((M.ok v_right_32).bnd fun x34 => M.ok x34).bnd fun x38 => mapM (fun y35 => (M.ok y35).bnd fun x36 => (M.ok c_ODD).bnd fun x37 => M.ok (memB x36 x37)) x38).bnd fun x39 => M.ok (x39.all id)).bnd fun x40 => M.ok (!x40)).bnd fun c57 => if c57 = true then
  M.ok none
  else
  ((((M.ok v_left_29).bnd getO)).bnd fun x51 => ((M.ok ([] : List Nat)).bnd fun x49 => (((M.ok v_right_32).bnd fun x42 => M.ok x42).bnd fun x48 => mapM (fun y43 => (M.ok c_FIGURES).bnd fun x46 => ((M.ok c_ODD).bnd fun x44 => (M.ok y43).bnd fun x45 => idxTM x44 x45).bnd fun x47 => ixSM x46 x47) x48).bnd fun x50 => joinM x49 x50).bnd fun x52 => catM x51 x52).bnd fun v_found_53 =>
  (((M.ok v_found_53).bnd fun x54 => p_fits x54).bnd fun x55 => M.ok (!x55)).bnd fun c56 => if c56 = true then
  M.ok none
  else
  ((M.ok v_found_53).bnd fun a => M.ok (some a))
def h_thirteen (v_cell_here : Int) : M (List Nat) :=
  ((M.ok v_cell_here).bnd fun x1 => (M.ok (12 : Int)).bnd fun x2 => h_figures x1 x2).bnd fun v_first_3 =>
  (M.ok v_first_3).bnd fun x5 => ((M.ok v_first_3).bnd fun x4 => h_check x4).bnd fun x6 => catM x5 x6
def p_thirteen_of_c2 (v_found : (Option (List Nat))) : M ((List Nat)) :=
  ((M.ok v_found).bnd getO)
def p_thirteen_of_c1 (v_found : (Option (List Nat))) : M ((List Nat)) :=
  ((M.ok v_found).bnd fun x7 => M.ok x7.isNone).bnd fun c8 => if c8 = true then
  M.exc 2
  else
  p_thirteen_of_c2 (v_found)
def p_thirteen_of (v_row : (List Int)) : M (List Nat) :=
  ((M.ok v_row).bnd fun x1 => p_straight_thirteen x1).bnd fun v_found_2 =>
  ((M.ok v_found_2).bnd fun x3 => M.ok x3.isNone).bnd fun c13 => if c13 = true then
  (((M.ok v_row).bnd fun x4 => p_turned x4).bnd fun x5 => p_straight_thirteen x5).bnd fun v_found_6 =>
  p_thirteen_of_c1 (v_found_6)
  else
  p_thirteen_of_c1 (v_found_2)
def p_width_of (v_sign : (List Nat)) (v_wide : Int) : M Int :=
  ((M.ok v_sign).bnd fun x1 => (M.ok ([119] : List Nat)).bnd fun x2 => M.ok (decide (x1 = x2))).bnd fun c3 => if c3 = true then
  M.ok v_wide
  else
  M.ok (1 : Int)
def p_figure_in (v_widths : (List Int)) (v_wide : Int) : M (Option (List Nat)) :=
  ((M.ok ([] : List Nat)).bnd fun x10 => (((M.ok v_widths).bnd fun x1 => M.ok x1).bnd fun x9 => mapM (fun y2 => ((M.ok y2).bnd fun x3 => (M.ok v_wide).bnd fun x4 => M.ok (decide (x3 = x4))).bnd fun x8 => if x8 = true then M.ok ([119] : List Nat) else ((M.ok y2).bnd fun x5 => (M.ok (1 : Int)).bnd fun x6 => M.ok (decide (x5 = x6))).bnd fun x7 => if x7 = true then M.ok ([110] : List Nat) else M.ok ([63] : List Nat)) x9).bnd fun x11 => joinM x10 x11).bnd fun v_signs_12 =>
  ((M.ok v_signs_12).bnd fun x13 => (M.ok c_FIVES).bnd fun x14 => (M.ok (memB x13 x14)).bnd fun b => M.ok (!b)).bnd fun c19 => if c19 = true then
  M.ok none
  else
  (((M.ok c_FIGURES).bnd fun x17 => ((M.ok c_FIVES).bnd fun x15 => (M.ok v_signs_12).bnd fun x16 => idxTM x15 x16).bnd fun x18 => ixSM x17 x18).bnd fun a => M.ok (some a))
def p_pair_row (v_figures : (List Nat)) (v_wide : Int) : M (List Int) :=
  (((((M.ok v_figures).bnd fun x1 => M.ok (x1.length : Int)).bnd fun x2 => (M.ok (2 : Int)).bnd fun x3 => modM x2 x3).bnd fun x4 => (M.ok (1 : Int)).bnd fun x5 => M.ok (decide (x4 = x5))).bnd fun x14 => if x14 = true then M.ok true else (((M.ok (2 : Int)).bnd fun x7 => ((M.ok v_figures).bnd fun x6 => M.ok (x6.length : Int)).bnd fun x8 => if decide (x7 ≤ x8) = true then (M.ok c_MOST_FIGURES).bnd fun x9 => M.ok (decide (x8 ≤ x9)) else M.ok false).bnd fun x10 => M.ok (!x10)).bnd fun x13 => if x13 = true then M.ok true else ((M.ok v_figures).bnd fun x11 => p_are_figures x11).bnd fun x12 => M.ok (!x12)).bnd fun c65 => if c65 = true then
  M.exc 2
  else
  (M.ok c_FRONT).bnd fun v_found_15 =>
  ((M.ok (0 : Int)).bnd fun x17 => ((M.ok v_figures).bnd fun x16 => M.ok (x16.length : Int)).bnd fun x18 => (M.ok (2 : Int)).bnd fun x19 => rngM x17 x18 x19).bnd fun x64 => (fold (fun (a22 : Int) (s20 : ((List Int))) =>
  (((M.ok c_FIVES).bnd fun x26 => (((M.ok v_figures).bnd fun x23 => (M.ok a22).bnd fun x24 => ixSM x23 x24).bnd fun x25 => intSM x25).bnd fun x27 => ixM x26 x27).bnd fun x35 => ((M.ok c_FIVES).bnd fun x33 => (((M.ok v_figures).bnd fun x30 => ((M.ok a22).bnd fun x28 => (M.ok (1 : Int)).bnd fun x29 => M.ok (x28 + x29)).bnd fun x31 => ixSM x30 x31).bnd fun x32 => intSM x32).bnd fun x34 => ixM x33 x34).bnd fun x36 => M.ok ((chars x35).zip (chars x36))).bnd fun x53 => (fold (fun (a39 : ((List Nat) × (List Nat))) (s37 : ((List Int))) =>
  ((M.ok s37).bnd fun x48 => (((M.ok a39.1).bnd fun x40 => (M.ok v_wide).bnd fun x41 => p_width_of x40 x41).bnd fun x46 => (((M.ok a39.2).bnd fun x42 => (M.ok v_wide).bnd fun x43 => p_width_of x42 x43).bnd fun x44 => (M.ok []).bnd fun x45 => M.ok (x44 :: x45)).bnd fun x47 => M.ok (x46 :: x47)).bnd fun x49 => catM x48 x49).bnd fun v_found_50 =>
  M.ok v_found_50) x53 s20).bnd fun s51 =>
  M.ok s51) x64 v_found_15).bnd fun s54 =>
  (M.ok s54).bnd fun x62 => ((M.ok v_wide).bnd fun x60 => ((M.ok (1 : Int)).bnd fun x58 => ((M.ok (1 : Int)).bnd fun x56 => (M.ok []).bnd fun x57 => M.ok (x56 :: x57)).bnd fun x59 => M.ok (x58 :: x59)).bnd fun x61 => M.ok (x60 :: x61)).bnd fun x63 => catM x62 x63
def p_straight_pair (v_row : (List Int)) (v_wide : Int) : M (Option (List Nat)) :=
  ((((M.ok v_row).bnd fun x2 => (M.ok none).bnd fun x3 => ((M.ok (4 : Int)).bnd fun x1 => M.ok (some x1)).bnd fun x4 => M.ok (cut x2 x3 x4)).bnd fun x5 => (M.ok c_FRONT).bnd fun x6 => M.ok (!decide (x5 = x6))).bnd fun x30 => if x30 = true then M.ok true else (((M.ok v_row).bnd fun x9 => (((M.ok (3 : Int)).bnd fun x7 => M.ok (-x7)).bnd fun x8 => M.ok (some x8)).bnd fun x10 => (M.ok none).bnd fun x11 => M.ok (cut x9 x10 x11)).bnd fun x18 => ((M.ok v_wide).bnd fun x16 => ((M.ok (1 : Int)).bnd fun x14 => ((M.ok (1 : Int)).bnd fun x12 => (M.ok []).bnd fun x13 => M.ok (x12 :: x13)).bnd fun x15 => M.ok (x14 :: x15)).bnd fun x17 => M.ok (x16 :: x17)).bnd fun x19 => M.ok (!decide (x18 = x19))).bnd fun x29 => if x29 = true then M.ok true else ((((M.ok v_row).bnd fun x20 => M.ok (x20.length : Int)).bnd fun x21 => (M.ok (10 : Int)).bnd fun x22 => modM x21 x22).bnd fun x23 => (M.ok (7 : Int)).bnd fun x24 => M.ok (!decide (x23 = x24))).bnd fun x28 => if x28 = true then M.ok true else ((M.ok v_row).bnd fun x25 => M.ok (x25.length : Int)).bnd fun x26 => (M.ok (17 : Int)).bnd fun x27 => M.ok (decide (x26 < x27))).bnd fun c81 => if c81 = true then
  M.ok none
  else
  (M.ok ([] : List Nat)).bnd fun v_found_31 =>
  ((M.ok (4 : Int)).bnd fun x35 => (((M.ok v_row).bnd fun x32 => M.ok (x32.length : Int)).bnd fun x33 => (M.ok (3 : Int)).bnd fun x34 => M.ok (x33 - x34)).bnd fun x36 => (M.ok (10 : Int)).bnd fun x37 => rngM x35 x36 x37).bnd fun x79 => (loop (fun (a40 : Int) (s38 : ((List Nat))) =>
  ((((M.ok (0 : Int)).bnd fun x43 => ((M.ok (1 : Int)).bnd fun x41 => (M.ok []).bnd fun x42 => M.ok (x41 :: x42)).bnd fun x44 => M.ok (x43 :: x44)).bnd fun x45 => M.ok x45).bnd fun x58 => mapM (fun y46 => ((M.ok v_row).bnd fun x53 => (((M.ok a40).bnd fun x47 => (M.ok y46).bnd fun x48 => M.ok (x47 + x48)).bnd fun x49 => M.ok (some x49)).bnd fun x54 => (((M.ok a40).bnd fun x50 => (M.ok (10 : Int)).bnd fun x51 => M.ok (x50 + x51)).bnd fun x52 => M.ok (some x52)).bnd fun x55 => M.ok (half (cut x53 x54 x55))).bnd fun x56 => (M.ok v_wide).bnd fun x57 => p_figure_in x56 x57) x58).bnd fun v_some_59 =>
  ((M.ok none).bnd fun x60 => (M.ok v_some_59).bnd fun x61 => M.ok (memB x60 x61)).bnd fun c72 => if c72 = true then
  (M.ok none).bnd fun x62 => M.ok (Stp.rt x62)
  else
  (((M.ok s38).bnd fun x65 => ((((M.ok v_some_59).bnd fun x63 => (M.ok (0 : Int)).bnd fun x64 => ixM x63 x64).bnd getO)).bnd fun x66 => catM x65 x66).bnd fun x69 => ((((M.ok v_some_59).bnd fun x67 => (M.ok (1 : Int)).bnd fun x68 => ixM x67 x68).bnd getO)).bnd fun x70 => catM x69 x70).bnd fun v_found_71 =>
  M.ok (Stp.nx v_found_71)) x79 v_found_31).bnd fun r80 => onS r80 (fun s73 =>
  (((M.ok s73).bnd fun x75 => M.ok (x75.length : Int)).bnd fun x76 => (M.ok c_MOST_FIGURES).bnd fun x77 => M.ok (decide (x77 < x76))).bnd fun c78 => if c78 = true then
  M.ok none
  else
  ((M.ok s73).bnd fun a => M.ok (some a))) (fun a => a)
def p_pair_of (v_row : (List Int)) : M (List Nat) :=
  (((M.ok v_row).bnd fun x4 => (((M.ok v_row).bnd fun x1 => p_turned x1).bnd fun x2 => (M.ok []).bnd fun x3 => M.ok (x2 :: x3)).bnd fun x5 => M.ok (x4 :: x5)).bnd fun x6 => M.ok x6).bnd fun x26 => (loop (fun (a9 : (List Int)) (s7 : Unit) =>
  ((M.ok c_WIDES).bnd fun x10 => M.ok x10).bnd fun x22 => (loop (fun (a13 : Int) (s11 : Unit) =>
  ((M.ok a9).bnd fun x14 => (M.ok a13).bnd fun x15 => p_straight_pair x14 x15).bnd fun v_found_16 =>
  ((M.ok v_found_16).bnd fun x17 => M.ok x17.isSome).bnd fun c19 => if c19 = true then
  (((M.ok v_found_16).bnd getO)).bnd fun x18 => M.ok (Stp.rt x18)
  else
  M.ok (Stp.nx ())) x22 ()).bnd fun r23 => onS r23 (fun s20 =>
  M.ok (Stp.nx ())) Stp.rt) x26 ()).bnd fun r27 => onS r27 (fun s24 =>
  M.exc 2) (fun a => a)
def p_must (v_truth : Bool) : M Unit :=
  ((M.ok v_truth).bnd fun x1 => M.ok (!x1)).bnd fun c2 => if c2 = true then
  M.exc 2
  else
  M.ok ()
def p_is_sign (v_sign : (List Int)) : M Bool :=
  (((M.ok v_sign).bnd fun x1 => M.ok (x1.length : Int)).bnd fun x2 => (M.ok (6 : Int)).bnd fun x3 => M.ok (decide (x2 = x3))).bnd fun x16 => if x16 = true then (((M.ok v_sign).bnd fun x4 => bstM max x4).bnd fun x5 => (M.ok (4 : Int)).bnd fun x6 => M.ok (decide (x5 ≤ x6))).bnd fun x15 => if x15 = true then ((M.ok ([] : List Nat)).bnd fun x11 => (((M.ok v_sign).bnd fun x7 => M.ok x7).bnd fun x10 => mapM (fun y8 => (M.ok y8).bnd fun x9 => strIM x9) x10).bnd fun x12 => joinM x11 x12).bnd fun x13 => (M.ok c_SIGNS).bnd fun x14 => M.ok (memB x13 x14) else M.ok false else M.ok false
def h_signs  : M (List (List Int)) :=
  ((M.ok [] : M (List (List Int)))).bnd fun v_gathered_1 =>
  (((M.ok (4 : Int)).bnd fun x2 => (M.ok (6 : Int)).bnd fun x3 => powM x2 x3).bnd fun x4 => rngM 0 x4 1).bnd fun x53 => (fold (fun (a7 : Int) (s5 : ((List (List Int)))) =>
  ((M.ok [] : M (List Int))).bnd fun v_widths_8 =>
  (M.ok a7).bnd fun v_left_9 =>
  ((M.ok (6 : Int)).bnd fun x10 => rngM 0 x10 1).bnd fun x50 => (fold (fun (a13 : Int) (s11 : ((List Int) × Int)) =>
  ((((M.ok (1 : Int)).bnd fun x16 => ((M.ok s11.2).bnd fun x14 => (M.ok (4 : Int)).bnd fun x15 => modM x14 x15).bnd fun x17 => M.ok (x16 + x17)).bnd fun x18 => (M.ok []).bnd fun x19 => M.ok (x18 :: x19)).bnd fun x20 => (M.ok s11.1).bnd fun x21 => catM x20 x21).bnd fun v_widths_22 =>
  ((M.ok s11.2).bnd fun x23 => (M.ok (4 : Int)).bnd fun x24 => fdivM x23 x24).bnd fun v_left_25 =>
  M.ok (v_widths_22, v_left_25)) x50 (v_widths_8, v_left_9)).bnd fun s26 =>
  ((((M.ok s26.1).bnd fun x28 => M.ok x28.sum).bnd fun x29 => (M.ok (11 : Int)).bnd fun x30 => M.ok (decide (x29 = x30))).bnd fun x45 => if x45 = true then (((((M.ok s26.1).bnd fun x31 => (M.ok (0 : Int)).bnd fun x32 => ixM x31 x32).bnd fun x35 => ((M.ok s26.1).bnd fun x33 => (M.ok (2 : Int)).bnd fun x34 => ixM x33 x34).bnd fun x36 => M.ok (x35 + x36)).bnd fun x39 => ((M.ok s26.1).bnd fun x37 => (M.ok (4 : Int)).bnd fun x38 => ixM x37 x38).bnd fun x40 => M.ok (x39 + x40)).bnd fun x41 => (M.ok (2 : Int)).bnd fun x42 => modM x41 x42).bnd fun x43 => (M.ok (0 : Int)).bnd fun x44 => M.ok (decide (x43 = x44)) else M.ok false).bnd fun c49 => if c49 = true then
  ((M.ok s26.1).bnd fun x46 => M.ok x46).bnd fun x48 => M.grd (s5.length < lim) ((fun v_gathered_47 =>
  M.ok v_gathered_47) (s5 ++ [x48]))
  else
  M.ok s5) x53 v_gathered_1).bnd fun s51 =>
  M.ok s51
def h_tells (v_numbers_here : (List Int)) : M (Option (List Nat)) :=
  (M.ok ([32, 48, 49, 50, 51, 52, 53, 54, 55, 56, 57, 46, 44, 58, 59, 33, 63, 45, 43, 42, 47, 40, 41, 61] : List Nat)).bnd fun v_rest_1 =>
  (((M.ok ([97, 98, 99, 100, 101, 102, 103, 104, 105, 106, 107, 108, 109, 110, 111, 112, 113, 114, 115, 116, 117, 118, 119, 120, 121, 122] : List Nat)).bnd fun x2 => (M.ok v_rest_1).bnd fun x3 => catM x2 x3).bnd fun x8 => (((M.ok ([65, 66, 67, 68, 69, 70, 71, 72, 73, 74, 75, 76, 77, 78, 79, 80, 81, 82, 83, 84, 85, 86, 87, 88, 89, 90] : List Nat)).bnd fun x4 => (M.ok v_rest_1).bnd fun x5 => catM x4 x5).bnd fun x6 => (M.ok []).bnd fun x7 => M.ok (x6 :: x7)).bnd fun x9 => M.ok (x8 :: x9)).bnd fun v_sets_10 =>
  (((M.ok v_numbers_here).bnd fun x11 => ((M.ok [] : M (List Int))).bnd fun x12 => M.ok (decide (x11 = x12))).bnd fun x23 => if x23 = true then M.ok true else ((M.ok v_numbers_here).bnd fun x13 => (M.ok (0 : Int)).bnd fun x14 => ixM x13 x14).bnd fun x21 => ((M.ok (104 : Int)).bnd fun x19 => ((M.ok (105 : Int)).bnd fun x17 => ((M.ok (106 : Int)).bnd fun x15 => (M.ok []).bnd fun x16 => M.ok (x15 :: x16)).bnd fun x18 => M.ok (x17 :: x18)).bnd fun x20 => M.ok (x19 :: x20)).bnd fun x22 => (M.ok (memB x21 x22)).bnd fun b => M.ok (!b)).bnd fun c120 => if c120 = true then
  M.ok none
  else
  (((M.ok v_numbers_here).bnd fun x24 => (M.ok (0 : Int)).bnd fun x25 => ixM x24 x25).bnd fun x26 => (M.ok (104 : Int)).bnd fun x27 => M.ok (x26 - x27)).bnd fun v_here_28 =>
  (M.ok ([] : List Nat)).bnd fun v_text_29 =>
  (M.ok false).bnd fun v_shifted_30 =>
  (((M.ok v_numbers_here).bnd fun x32 => ((M.ok (1 : Int)).bnd fun x31 => M.ok (some x31)).bnd fun x33 => (M.ok none).bnd fun x34 => M.ok (cut x32 x33 x34)).bnd fun x35 => M.ok x35).bnd fun x118 => (loop (fun (a38 : Int) (s36 : (Int × (List Nat) × Bool)) =>
  (M.ok s36.2.2).bnd fun c114 => if c114 = true then
  (((M.ok (0 : Int)).bnd fun x39 => (M.ok a38).bnd fun x40 => if decide (x39 ≤ x40) = true then (M.ok (50 : Int)).bnd fun x41 => M.ok (decide (x40 < x41)) else M.ok false).bnd fun x42 => M.ok (!x42)).bnd fun c54 => if c54 = true then
  (M.ok none).bnd fun x43 => M.ok (Stp.rt x43)
  else
  ((M.ok s36.2.1).bnd fun x50 => (((M.ok v_sets_10).bnd fun x46 => ((M.ok (1 : Int)).bnd fun x44 => (M.ok s36.1).bnd fun x45 => M.ok (x44 - x45)).bnd fun x47 => ixM x46 x47).bnd fun x48 => (M.ok a38).bnd fun x49 => ixSM x48 x49).bnd fun x51 => catM x50 x51).bnd fun v_text_52 =>
  (M.ok false).bnd fun v_shifted_53 =>
  M.ok (Stp.nx (s36.1, v_text_52, v_shifted_53))
  else
  (((M.ok a38).bnd fun x61 => ((M.ok (100 : Int)).bnd fun x59 => ((M.ok (101 : Int)).bnd fun x57 => ((M.ok (102 : Int)).bnd fun x55 => (M.ok []).bnd fun x56 => M.ok (x55 :: x56)).bnd fun x58 => M.ok (x57 :: x58)).bnd fun x60 => M.ok (x59 :: x60)).bnd fun x62 => M.ok (memB x61 x62)).bnd fun x67 => if x67 = true then ((M.ok a38).bnd fun x63 => (M.ok (100 : Int)).bnd fun x64 => M.ok (x63 - x64)).bnd fun x65 => (M.ok s36.1).bnd fun x66 => M.ok (!decide (x65 = x66)) else M.ok false).bnd fun c113 => if c113 = true then
  ((M.ok a38).bnd fun x68 => (M.ok (100 : Int)).bnd fun x69 => M.ok (x68 - x69)).bnd fun v_here_70 =>
  M.ok (Stp.nx (v_here_70, s36.2.1, s36.2.2))
  else
  (((M.ok a38).bnd fun x71 => (M.ok (103 : Int)).bnd fun x72 => M.ok (decide (x71 = x72))).bnd fun x75 => if x75 = true then (M.ok s36.1).bnd fun x73 => (M.ok (2 : Int)).bnd fun x74 => M.ok (decide (x73 < x74)) else M.ok false).bnd fun c112 => if c112 = true then
  (M.ok true).bnd fun v_shifted_76 =>
  M.ok (Stp.nx (s36.1, s36.2.1, v_shifted_76))
  else
  (((M.ok s36.1).bnd fun x77 => (M.ok (2 : Int)).bnd fun x78 => M.ok (decide (x77 = x78))).bnd fun x82 => if x82 = true then (M.ok (0 : Int)).bnd fun x79 => (M.ok a38).bnd fun x80 => if decide (x79 ≤ x80) = true then (M.ok (100 : Int)).bnd fun x81 => M.ok (decide (x80 < x81)) else M.ok false else M.ok false).bnd fun c111 => if c111 = true then
  (((M.ok s36.2.1).bnd fun x87 => ((M.ok ([48, 49, 50, 51, 52, 53, 54, 55, 56, 57] : List Nat)).bnd fun x85 => ((M.ok a38).bnd fun x83 => (M.ok (10 : Int)).bnd fun x84 => fdivM x83 x84).bnd fun x86 => ixSM x85 x86).bnd fun x88 => catM x87 x88).bnd fun x93 => ((M.ok ([48, 49, 50, 51, 52, 53, 54, 55, 56, 57] : List Nat)).bnd fun x91 => ((M.ok a38).bnd fun x89 => (M.ok (10 : Int)).bnd fun x90 => modM x89 x90).bnd fun x92 => ixSM x91 x92).bnd fun x94 => catM x93 x94).bnd fun v_text_95 =>
  M.ok (Stp.nx (s36.1, v_text_95, s36.2.2))
  else
  (((M.ok s36.1).bnd fun x96 => (M.ok (2 : Int)).bnd fun x97 => M.ok (decide (x96 < x97))).bnd fun x101 => if x101 = true then (M.ok (0 : Int)).bnd fun x98 => (M.ok a38).bnd fun x99 => if decide (x98 ≤ x99) = true then (M.ok (50 : Int)).bnd fun x100 => M.ok (decide (x99 < x100)) else M.ok false else M.ok false).bnd fun c110 => if c110 = true then
  ((M.ok s36.2.1).bnd fun x106 => (((M.ok v_sets_10).bnd fun x102 => (M.ok s36.1).bnd fun x103 => ixM x102 x103).bnd fun x104 => (M.ok a38).bnd fun x105 => ixSM x104 x105).bnd fun x107 => catM x106 x107).bnd fun v_text_108 =>
  M.ok (Stp.nx (s36.1, v_text_108, s36.2.2))
  else
  (M.ok none).bnd fun x109 => M.ok (Stp.rt x109)) x118 (v_here_28, v_text_29, v_shifted_30)).bnd fun r119 => onS r119 (fun s115 =>
  (M.ok s115.2.2).bnd fun x117 => if x117 = true then M.ok none else ((M.ok s115.2.1).bnd fun a => M.ok (some a))) (fun a => a)
def p_sign_of (v_number : Int) : M (List Int) :=
  (((M.ok (0 : Int)).bnd fun x2 => (M.ok v_number).bnd fun x3 => if decide (x2 ≤ x3) = true then ((M.ok c_SIGNS).bnd fun x1 => M.ok (x1.length : Int)).bnd fun x4 => M.ok (decide (x3 < x4)) else M.ok false).bnd fun x5 => p_must x5).bnd fun _ =>
  ((((M.ok c_SIGNS).bnd fun x6 => (M.ok v_number).bnd fun x7 => ixM x6 x7).bnd fun x8 => M.ok (chars x8)).bnd fun x11 => mapM (fun y9 => (M.ok y9).bnd fun x10 => intSM x10) x11).bnd fun x12 => M.ok x12
def p_number_of (v_sign : (List Int)) : M Int :=
  (((M.ok v_sign).bnd fun x1 => p_is_sign x1).bnd fun x2 => p_must x2).bnd fun _ =>
  (M.ok c_SIGNS).bnd fun x9 => ((M.ok ([] : List Nat)).bnd fun x7 => (((M.ok v_sign).bnd fun x3 => M.ok x3).bnd fun x6 => mapM (fun y4 => (M.ok y4).bnd fun x5 => strIM x5) x6).bnd fun x8 => joinM x7 x8).bnd fun x10 => idxTM x9 x10
def p_meant (v_number : Int) (v_name : (List Nat)) : M (List Nat) :=
  ((M.ok v_name).bnd fun x1 => (M.ok ([100, 111, 117, 98, 108, 101] : List Nat)).bnd fun x2 => M.ok (decide (x1 = x2))).bnd fun c28 => if c28 = true then
  (((M.ok (0 : Int)).bnd fun x3 => (M.ok v_number).bnd fun x4 => if decide (x3 ≤ x4) = true then (M.ok c_LEADS).bnd fun x5 => M.ok (decide (x4 < x5)) else M.ok false).bnd fun x6 => p_must x6).bnd fun _ =>
  ((M.ok c_FIGURES).bnd fun x9 => ((M.ok v_number).bnd fun x7 => (M.ok (10 : Int)).bnd fun x8 => fdivM x7 x8).bnd fun x10 => ixSM x9 x10).bnd fun x15 => ((M.ok c_FIGURES).bnd fun x13 => ((M.ok v_number).bnd fun x11 => (M.ok (10 : Int)).bnd fun x12 => modM x11 x12).bnd fun x14 => ixSM x13 x14).bnd fun x16 => catM x15 x16
  else
  (((M.ok v_name).bnd fun x17 => (M.ok ([103, 114, 101, 97, 116] : List Nat)).bnd fun x18 => M.ok (decide (x17 = x18))).bnd fun x19 => if x19 = true then M.ok c_GREAT else M.ok c_SMALL).bnd fun v_signs_20 =>
  (((M.ok (0 : Int)).bnd fun x22 => (M.ok v_number).bnd fun x23 => if decide (x22 ≤ x23) = true then ((M.ok v_signs_20).bnd fun x21 => M.ok (x21.length : Int)).bnd fun x24 => M.ok (decide (x23 < x24)) else M.ok false).bnd fun x25 => p_must x25).bnd fun _ =>
  (M.ok v_signs_20).bnd fun x26 => (M.ok v_number).bnd fun x27 => ixSM x26 x27
def p_other_set (v_name : (List Nat)) : M (List Nat) :=
  (((M.ok v_name).bnd fun x1 => (M.ok ([100, 111, 117, 98, 108, 101] : List Nat)).bnd fun x2 => M.ok (!decide (x1 = x2))).bnd fun x3 => p_must x3).bnd fun _ =>
  ((M.ok v_name).bnd fun x4 => (M.ok ([115, 109, 97, 108, 108] : List Nat)).bnd fun x5 => M.ok (decide (x4 = x5))).bnd fun c6 => if c6 = true then
  M.ok ([103, 114, 101, 97, 116] : List Nat)
  else
  M.ok ([115, 109, 97, 108, 108] : List Nat)
def h_numbers (v_cell_here : Int) : M (List Int) :=
  (((M.ok (104 : Int)).bnd fun x4 => ((M.ok v_cell_here).bnd fun x1 => (M.ok (9941 : Int)).bnd fun x2 => (M.ok (3 : Int)).bnd fun x3 => h_mix x1 x2 x3).bnd fun x5 => M.ok (x4 + x5)).bnd fun x6 => (M.ok []).bnd fun x7 => M.ok (x6 :: x7)).bnd fun v_gathered_8 =>
  ((M.ok v_cell_here).bnd fun x9 => (M.ok (9941 : Int)).bnd fun x10 => (M.ok (3 : Int)).bnd fun x11 => h_mix x9 x10 x11).bnd fun v_here_12 =>
  (((M.ok v_cell_here).bnd fun x13 => (M.ok (9931 : Int)).bnd fun x14 => (M.ok (9 : Int)).bnd fun x15 => h_mix x13 x14 x15).bnd fun x16 => rngM 0 x16 1).bnd fun x82 => (fold (fun (a19 : Int) (s17 : ((List Int) × Int)) =>
  ((M.ok v_cell_here).bnd fun x22 => ((M.ok (13 : Int)).bnd fun x20 => (M.ok a19).bnd fun x21 => mulIM x20 x21).bnd fun x23 => M.ok (x22 + x23)).bnd fun v_seed_24 =>
  ((M.ok v_seed_24).bnd fun x25 => (M.ok (9929 : Int)).bnd fun x26 => (M.ok (8 : Int)).bnd fun x27 => h_mix x25 x26 x27).bnd fun v_way_28 =>
  ((M.ok v_way_28).bnd fun x29 => (M.ok (0 : Int)).bnd fun x30 => M.ok (decide (x29 = x30))).bnd fun c79 => if c79 = true then
  ((((M.ok s17.2).bnd fun x31 => (M.ok (1 : Int)).bnd fun x32 => M.ok (x31 + x32)).bnd fun x36 => ((M.ok v_seed_24).bnd fun x33 => (M.ok (9923 : Int)).bnd fun x34 => (M.ok (2 : Int)).bnd fun x35 => h_mix x33 x34 x35).bnd fun x37 => M.ok (x36 + x37)).bnd fun x38 => (M.ok (3 : Int)).bnd fun x39 => modM x38 x39).bnd fun v_here_40 =>
  ((M.ok s17.1).bnd fun x45 => (((M.ok (100 : Int)).bnd fun x41 => (M.ok v_here_40).bnd fun x42 => M.ok (x41 + x42)).bnd fun x43 => (M.ok []).bnd fun x44 => M.ok (x43 :: x44)).bnd fun x46 => catM x45 x46).bnd fun v_gathered_47 =>
  M.ok (v_gathered_47, v_here_40)
  else
  (((M.ok v_way_28).bnd fun x48 => (M.ok (1 : Int)).bnd fun x49 => M.ok (decide (x48 = x49))).bnd fun x52 => if x52 = true then (M.ok s17.2).bnd fun x50 => (M.ok (2 : Int)).bnd fun x51 => M.ok (decide (x50 < x51)) else M.ok false).bnd fun c78 => if c78 = true then
  ((M.ok s17.1).bnd fun x60 => ((M.ok (103 : Int)).bnd fun x58 => (((M.ok v_seed_24).bnd fun x53 => (M.ok (9907 : Int)).bnd fun x54 => (M.ok (50 : Int)).bnd fun x55 => h_mix x53 x54 x55).bnd fun x56 => (M.ok []).bnd fun x57 => M.ok (x56 :: x57)).bnd fun x59 => M.ok (x58 :: x59)).bnd fun x61 => catM x60 x61).bnd fun v_gathered_62 =>
  M.ok (v_gathered_62, s17.2)
  else
  ((M.ok s17.1).bnd fun x75 => (((M.ok v_seed_24).bnd fun x70 => (M.ok (9901 : Int)).bnd fun x71 => ((M.ok (50 : Int)).bnd fun x68 => ((M.ok (50 : Int)).bnd fun x66 => (((M.ok s17.2).bnd fun x63 => (M.ok (2 : Int)).bnd fun x64 => M.ok (decide (x63 = x64))).bnd fun x65 => M.ok (if x65 then 1 else 0)).bnd fun x67 => mulIM x66 x67).bnd fun x69 => M.ok (x68 + x69)).bnd fun x72 => h_mix x70 x71 x72).bnd fun x73 => (M.ok []).bnd fun x74 => M.ok (x73 :: x74)).bnd fun x76 => catM x75 x76).bnd fun v_gathered_77 =>
  M.ok (v_gathered_77, s17.2)) x82 (v_gathered_8, v_here_12)).bnd fun s80 =>
  M.ok s80.1
def p_text_of (v_numbers : (List Int)) : M (List Nat) :=
  (((((M.ok v_numbers).bnd fun x1 => M.ok (x1.length : Int)).bnd fun x2 => (M.ok (0 : Int)).bnd fun x3 => M.ok (decide (x3 < x2))).bnd fun x11 => if x11 = true then (M.ok c_BEGINS).bnd fun x8 => ((M.ok v_numbers).bnd fun x4 => (M.ok (0 : Int)).bnd fun x5 => ixM x4 x5).bnd fun x9 => if decide (x8 ≤ x9) = true then ((M.ok c_BEGINS).bnd fun x6 => (M.ok (3 : Int)).bnd fun x7 => M.ok (x6 + x7)).bnd fun x10 => M.ok (decide (x9 < x10)) else M.ok false else M.ok false).bnd fun x12 => p_must x12).bnd fun _ =>
  ((M.ok c_SETS).bnd fun x17 => (((M.ok v_numbers).bnd fun x13 => (M.ok (0 : Int)).bnd fun x14 => ixM x13 x14).bnd fun x15 => (M.ok c_BEGINS).bnd fun x16 => M.ok (x15 - x16)).bnd fun x18 => ixM x17 x18).bnd fun v_name_19 =>
  (M.ok false).bnd fun v_is_shifted_20 =>
  (M.ok ([] : List Nat)).bnd fun v_found_21 =>
  (((M.ok v_numbers).bnd fun x23 => ((M.ok (1 : Int)).bnd fun x22 => M.ok (some x22)).bnd fun x24 => (M.ok none).bnd fun x25 => M.ok (cut x23 x24 x25)).bnd fun x26 => M.ok x26).bnd fun x70 => (fold (fun (a29 : Int) (s27 : ((List Nat) × Bool × (List Nat))) =>
  (M.ok s27.2.1).bnd fun c65 => if c65 = true then
  ((M.ok s27.2.2).bnd fun x33 => ((M.ok a29).bnd fun x31 => ((M.ok s27.1).bnd fun x30 => p_other_set x30).bnd fun x32 => p_meant x31 x32).bnd fun x34 => catM x33 x34).bnd fun v_found_35 =>
  (M.ok false).bnd fun v_is_shifted_36 =>
  M.ok (s27.1, v_is_shifted_36, v_found_35)
  else
  ((M.ok a29).bnd fun x37 => (M.ok c_SHIFT).bnd fun x38 => M.ok (decide (x37 = x38))).bnd fun c64 => if c64 = true then
  (((M.ok s27.1).bnd fun x39 => (M.ok ([100, 111, 117, 98, 108, 101] : List Nat)).bnd fun x40 => M.ok (!decide (x39 = x40))).bnd fun x41 => p_must x41).bnd fun _ =>
  (M.ok true).bnd fun v_is_shifted_42 =>
  M.ok (s27.1, v_is_shifted_42, s27.2.2)
  else
  ((M.ok c_LEADS).bnd fun x43 => (M.ok a29).bnd fun x44 => if decide (x43 ≤ x44) = true then (M.ok c_SHIFT).bnd fun x45 => M.ok (decide (x44 < x45)) else M.ok false).bnd fun c63 => if c63 = true then
  ((((M.ok c_SETS).bnd fun x48 => ((M.ok a29).bnd fun x46 => (M.ok c_LEADS).bnd fun x47 => M.ok (x46 - x47)).bnd fun x49 => ixM x48 x49).bnd fun x50 => (M.ok s27.1).bnd fun x51 => M.ok (!decide (x50 = x51))).bnd fun x52 => p_must x52).bnd fun _ =>
  ((M.ok c_SETS).bnd fun x55 => ((M.ok a29).bnd fun x53 => (M.ok c_LEADS).bnd fun x54 => M.ok (x53 - x54)).bnd fun x56 => ixM x55 x56).bnd fun v_name_57 =>
  M.ok (v_name_57, s27.2.1, s27.2.2)
  else
  ((M.ok s27.2.2).bnd fun x60 => ((M.ok a29).bnd fun x58 => (M.ok s27.1).bnd fun x59 => p_meant x58 x59).bnd fun x61 => catM x60 x61).bnd fun v_found_62 =>
  M.ok (s27.1, s27.2.1, v_found_62)) x70 (v_name_19, v_is_shifted_20, v_found_21)).bnd fun s66 =>
  (((M.ok s66.2.1).bnd fun x68 => M.ok (!x68)).bnd fun x69 => p_must x69).bnd fun _ =>
  M.ok s66.2.2
def p_eleven_row (v_numbers : (List Int)) : M (List Int) :=
  ((M.ok v_numbers).bnd fun x1 => p_text_of x1).bnd fun _ =>
  ((M.ok [] : M (List Int))).bnd fun v_found_2 =>
  (((M.ok v_numbers).bnd fun x9 => (((M.ok v_numbers).bnd fun x3 => (M.ok c_BY).bnd fun x4 => p_mod_check x3 x4).bnd fun x7 => ((M.ok c_END).bnd fun x5 => (M.ok []).bnd fun x6 => M.ok (x5 :: x6)).bnd fun x8 => M.ok (x7 :: x8)).bnd fun x10 => catM x9 x10).bnd fun x11 => M.ok x11).bnd fun x23 => (fold (fun (a14 : Int) (s12 : ((List Int))) =>
  ((M.ok s12).bnd fun x16 => ((M.ok a14).bnd fun x15 => p_sign_of x15).bnd fun x17 => catM x16 x17).bnd fun v_found_18 =>
  M.ok v_found_18) x23 v_found_2).bnd fun s19 =>
  (M.ok s19).bnd fun x21 => (M.ok c_LAST).bnd fun x22 => catM x21 x22
def p_straight_numbers (v_row : (List Int)) : M (Option (List Int)) :=
  (((((M.ok v_row).bnd fun x1 => M.ok (x1.length : Int)).bnd fun x2 => (M.ok (6 : Int)).bnd fun x3 => modM x2 x3).bnd fun x4 => (M.ok (1 : Int)).bnd fun x5 => M.ok (!decide (x4 = x5))).bnd fun x13 => if x13 = true then M.ok true else ((M.ok v_row).bnd fun x8 => (((M.ok (1 : Int)).bnd fun x6 => M.ok (-x6)).bnd fun x7 => M.ok (some x7)).bnd fun x9 => (M.ok none).bnd fun x10 => M.ok (cut x8 x9 x10)).bnd fun x11 => (M.ok c_LAST).bnd fun x12 => M.ok (!decide (x11 = x12))).bnd fun c79 => if c79 = true then
  M.ok none
  else
  (((M.ok (0 : Int)).bnd fun x17 => (((M.ok v_row).bnd fun x14 => M.ok (x14.length : Int)).bnd fun x15 => (M.ok (1 : Int)).bnd fun x16 => M.ok (x15 - x16)).bnd fun x18 => (M.ok (6 : Int)).bnd fun x19 => rngM x17 x18 x19).bnd fun x28 => mapM (fun y20 => (M.ok v_row).bnd fun x25 => ((M.ok y20).bnd fun x21 => M.ok (some x21)).bnd fun x26 => (((M.ok y20).bnd fun x22 => (M.ok (6 : Int)).bnd fun x23 => M.ok (x22 + x23)).bnd fun x24 => M.ok (some x24)).bnd fun x27 => M.ok (cut x25 x26 x27)) x28).bnd fun v_some_29 =>
  ((((M.ok v_some_29).bnd fun x30 => M.ok (x30.length : Int)).bnd fun x31 => (M.ok (3 : Int)).bnd fun x32 => M.ok (decide (x31 < x32))).bnd fun x39 => if x39 = true then M.ok true else ((((M.ok v_some_29).bnd fun x33 => M.ok x33).bnd fun x36 => mapM (fun y34 => (M.ok y34).bnd fun x35 => p_is_sign x35) x36).bnd fun x37 => M.ok (x37.all id)).bnd fun x38 => M.ok (!x38)).bnd fun c78 => if c78 = true then
  M.ok none
  else
  ((((M.ok v_some_29).bnd fun x40 => M.ok x40).bnd fun x43 => mapM (fun y41 => (M.ok y41).bnd fun x42 => p_number_of x42) x43).bnd fun x44 => M.ok x44).bnd fun v_found_45 =>
  ((((M.ok v_found_45).bnd fun x47 => ((M.ok (1 : Int)).bnd fun x46 => M.ok (-x46)).bnd fun x48 => ixM x47 x48).bnd fun x49 => (M.ok c_END).bnd fun x50 => M.ok (!decide (x49 = x50))).bnd fun x63 => if x63 = true then M.ok true else ((M.ok v_found_45).bnd fun x52 => ((M.ok (2 : Int)).bnd fun x51 => M.ok (-x51)).bnd fun x53 => ixM x52 x53).bnd fun x61 => (((M.ok v_found_45).bnd fun x56 => (M.ok none).bnd fun x57 => (((M.ok (2 : Int)).bnd fun x54 => M.ok (-x54)).bnd fun x55 => M.ok (some x55)).bnd fun x58 => M.ok (cut x56 x57 x58)).bnd fun x59 => (M.ok c_BY).bnd fun x60 => p_mod_check x59 x60).bnd fun x62 => M.ok (!decide (x61 = x62))).bnd fun c77 => if c77 = true then
  M.ok none
  else
  ((((M.ok v_found_45).bnd fun x68 => (M.ok none).bnd fun x69 => (((M.ok (2 : Int)).bnd fun x66 => M.ok (-x66)).bnd fun x67 => M.ok (some x67)).bnd fun x70 => M.ok (cut x68 x69 x70)).bnd fun x71 => p_text_of x71).bnd fun _ =>
  M.ok ()).tryc (fun (s64 : Unit) =>
  (((M.ok v_found_45).bnd fun x74 => (M.ok none).bnd fun x75 => (((M.ok (2 : Int)).bnd fun x72 => M.ok (-x72)).bnd fun x73 => M.ok (some x73)).bnd fun x76 => M.ok (cut x74 x75 x76)).bnd fun a => M.ok (some a))) fun c => hdM c 2 (M.ok none) (M.exc c)
def p_eleven_numbers_c1 (v_found : (Option (List Int))) : M ((List Int)) :=
  (((M.ok v_found).bnd fun x7 => M.ok x7.isSome).bnd fun x8 => p_must x8).bnd fun _ =>
  ((M.ok v_found).bnd getO)
def p_eleven_numbers (v_row : (List Int)) : M (List Int) :=
  ((M.ok v_row).bnd fun x1 => p_straight_numbers x1).bnd fun v_found_2 =>
  ((M.ok v_found_2).bnd fun x3 => M.ok x3.isNone).bnd fun c13 => if c13 = true then
  (((M.ok v_row).bnd fun x4 => p_turned x4).bnd fun x5 => p_straight_numbers x5).bnd fun v_found_6 =>
  p_eleven_numbers_c1 (v_found_6)
  else
  p_eleven_numbers_c1 (v_found_2)
def h_signs_text (v_cell_here : Int) (v_most : Int) : M (List Nat) :=
  (M.ok ([] : List Nat)).bnd fun v_gathered_1 =>
  (((M.ok v_cell_here).bnd fun x4 => (M.ok (9739 : Int)).bnd fun x5 => ((M.ok v_most).bnd fun x2 => (M.ok (1 : Int)).bnd fun x3 => M.ok (x2 + x3)).bnd fun x6 => h_mix x4 x5 x6).bnd fun x7 => rngM 0 x7 1).bnd fun x56 => (fold (fun (a10 : Int) (s8 : ((List Nat))) =>
  (((M.ok v_cell_here).bnd fun x20 => ((M.ok (17 : Int)).bnd fun x18 => ((M.ok a10).bnd fun x16 => ((M.ok (1 : Int)).bnd fun x14 => ((M.ok v_cell_here).bnd fun x11 => (M.ok (9733 : Int)).bnd fun x12 => (M.ok (4 : Int)).bnd fun x13 => h_mix x11 x12 x13).bnd fun x15 => M.ok (x14 + x15)).bnd fun x17 => fdivM x16 x17).bnd fun x19 => mulIM x18 x19).bnd fun x21 => M.ok (x20 + x21)).bnd fun x22 => (M.ok (1 : Int)).bnd fun x23 => M.ok (x22 + x23)).bnd fun v_seed_24 =>
  (((M.ok ([97, 98, 122] : List Nat)).bnd fun x35 => ((M.ok ([65, 81] : List Nat)).bnd fun x33 => ((M.ok ([48, 49, 50, 51, 52, 53, 54, 55, 56, 57] : List Nat)).bnd fun x31 => ((M.ok ([120, 89, 55] : List Nat)).bnd fun x29 => ((M.ok ([46, 61, 32] : List Nat)).bnd fun x27 => ((M.ok ([48, 48, 57, 57] : List Nat)).bnd fun x25 => (M.ok []).bnd fun x26 => M.ok (x25 :: x26)).bnd fun x28 => M.ok (x27 :: x28)).bnd fun x30 => M.ok (x29 :: x30)).bnd fun x32 => M.ok (x31 :: x32)).bnd fun x34 => M.ok (x33 :: x34)).bnd fun x36 => M.ok (x35 :: x36)).bnd fun x40 => ((M.ok v_seed_24).bnd fun x37 => (M.ok (9721 : Int)).bnd fun x38 => (M.ok (6 : Int)).bnd fun x39 => h_mix x37 x38 x39).bnd fun x41 => ixM x40 x41).bnd fun v_kind_42 =>
  ((M.ok s8).bnd fun x51 => ((M.ok v_kind_42).bnd fun x49 => (((M.ok v_seed_24).bnd fun x43 => (M.ok a10).bnd fun x44 => M.ok (x43 + x44)).bnd fun x46 => (M.ok (9719 : Int)).bnd fun x47 => ((M.ok v_kind_42).bnd fun x45 => M.ok (x45.length : Int)).bnd fun x48 => h_mix x46 x47 x48).bnd fun x50 => ixSM x49 x50).bnd fun x52 => catM x51 x52).bnd fun v_gathered_53 =>
  M.ok v_gathered_53) x56 v_gathered_1).bnd fun s54 =>
  M.ok s54
def p_far (v_width : Int) (v_one : Int) (v_every : Int) (v_spots : Int) : M Int :=
  (((M.ok v_width).bnd fun x1 => (M.ok v_every).bnd fun x2 => mulIM x1 x2).bnd fun x5 => ((M.ok v_one).bnd fun x3 => (M.ok v_spots).bnd fun x4 => mulIM x3 x4).bnd fun x6 => M.ok (x5 - x6)).bnd fun x7 => M.ok (if x7 < 0 then -x7 else x7)
def p_is_near (v_row : (List Int)) (v_measured : (List Int)) (v_unit : Int) : M Bool :=
  (((M.ok v_row).bnd fun x1 => M.ok (x1.length : Int)).bnd fun x3 => ((M.ok v_measured).bnd fun x2 => M.ok (x2.length : Int)).bnd fun x4 => M.ok (!decide (x3 = x4))).bnd fun c19 => if c19 = true then
  M.ok false
  else
  (((M.ok v_row).bnd fun x5 => (M.ok v_measured).bnd fun x6 => M.ok (x5.zip x6)).bnd fun x17 => mapM (fun y7 => ((((M.ok y7.2).bnd fun x10 => ((M.ok y7.1).bnd fun x8 => (M.ok v_unit).bnd fun x9 => mulIM x8 x9).bnd fun x11 => M.ok (x10 - x11)).bnd fun x12 => M.ok (if x12 < 0 then -x12 else x12)).bnd fun x13 => (M.ok (8 : Int)).bnd fun x14 => mulIM x13 x14).bnd fun x15 => (M.ok v_unit).bnd fun x16 => M.ok (decide (x15 ≤ x16))) x17).bnd fun x18 => M.ok (x18.all id)
def p_snapped (v_measured : (List Int)) (v_spots : Int) : M (List Int) :=
  ((M.ok v_measured).bnd fun x1 => M.ok x1.sum).bnd fun v_every_2 =>
  (((M.ok (1 : Int)).bnd fun x3 => (M.ok []).bnd fun x4 => M.ok (x3 :: x4)).bnd fun x6 => ((M.ok v_measured).bnd fun x5 => M.ok (x5.length : Int)).bnd fun x7 => mulSM x6 x7).bnd fun v_found_8 =>
  (((M.ok v_spots).bnd fun x10 => ((M.ok v_measured).bnd fun x9 => M.ok (x9.length : Int)).bnd fun x11 => M.ok (x10 - x11)).bnd fun x12 => rngM 0 x12 1).bnd fun x62 => (fold (fun (a15 : Int) (s13 : ((List Int))) =>
  ((M.ok [] : M (List (Int × Int)))).bnd fun v_costs_16 =>
  (((M.ok v_measured).bnd fun x17 => M.ok x17).bnd fun x18 => M.ok (enumF 0 x18)).bnd fun x58 => (fold (fun (a21 : (Int × Int)) (s19 : ((List (Int × Int)))) =>
  ((((((M.ok s13).bnd fun x22 => (M.ok a21.1).bnd fun x23 => ixM x22 x23).bnd fun x24 => (M.ok (1 : Int)).bnd fun x25 => M.ok (x24 + x25)).bnd fun x26 => (M.ok a21.2).bnd fun x27 => (M.ok v_every_2).bnd fun x28 => (M.ok v_spots).bnd fun x29 => p_far x26 x27 x28 x29).bnd fun x36 => (((M.ok s13).bnd fun x30 => (M.ok a21.1).bnd fun x31 => ixM x30 x31).bnd fun x32 => (M.ok a21.2).bnd fun x33 => (M.ok v_every_2).bnd fun x34 => (M.ok v_spots).bnd fun x35 => p_far x32 x33 x34 x35).bnd fun x37 => M.ok (x36 - x37)).bnd fun x40 => ((M.ok (0 : Int)).bnd fun x38 => (M.ok a21.1).bnd fun x39 => M.ok (x38 - x39)).bnd fun x41 => M.ok (x40, x41)).bnd fun x43 => M.grd (s19.length < lim) ((fun v_costs_42 =>
  M.ok v_costs_42) (s19 ++ [x43]))) x58 v_costs_16).bnd fun s44 =>
  ((M.ok (0 : Int)).bnd fun x48 => (((M.ok s44).bnd fun x46 => minPM (ordP ordIn ordIn) x46).bnd fun x47 => M.ok x47.2).bnd fun x49 => M.ok (x48 - x49)).bnd fun v_place_50 =>
  (((M.ok s13).bnd fun x51 => (M.ok v_place_50).bnd fun x52 => ixM x51 x52).bnd fun x53 => (M.ok (1 : Int)).bnd fun x54 => M.ok (x53 + x54)).bnd fun x56 => (M.ok v_place_50).bnd fun x57 => (setXM s13 x57 x56).bnd fun v_found_55 =>
  M.ok v_found_55) x62 v_found_8).bnd fun s59 =>
  (M.ok s59).bnd fun x61 => M.ok x61
def p_near_rows (v_row : (List Int)) : M (List (List Int)) :=
  ((M.ok v_row).bnd fun x1 => p_spots_of x1).bnd fun v_spots_2 =>
  ((M.ok [] : M (List (List Int)))).bnd fun v_found_3 =>
  ((M.ok (1 : Int)).bnd fun x7 => (((M.ok v_spots_2).bnd fun x4 => M.ok (x4.length : Int)).bnd fun x5 => (M.ok (1 : Int)).bnd fun x6 => M.ok (x5 - x6)).bnd fun x8 => rngM x7 x8 1).bnd fun x39 => (fold (fun (a11 : Int) (s9 : ((List (List Int)))) =>
  ((((M.ok v_spots_2).bnd fun x12 => (M.ok a11).bnd fun x13 => ixSM x12 x13).bnd fun x14 => (M.ok ([46] : List Nat)).bnd fun x15 => M.ok (decide (x14 = x15))).bnd fun x16 => if x16 = true then M.ok ([35] : List Nat) else M.ok ([46] : List Nat)).bnd fun v_other_17 =>
  (((((M.ok v_spots_2).bnd fun x19 => (M.ok none).bnd fun x20 => ((M.ok a11).bnd fun x18 => M.ok (some x18)).bnd fun x21 => M.ok (cut x19 x20 x21)).bnd fun x22 => (M.ok v_other_17).bnd fun x23 => catM x22 x23).bnd fun x30 => ((M.ok v_spots_2).bnd fun x27 => (((M.ok a11).bnd fun x24 => (M.ok (1 : Int)).bnd fun x25 => M.ok (x24 + x25)).bnd fun x26 => M.ok (some x26)).bnd fun x28 => (M.ok none).bnd fun x29 => M.ok (cut x27 x28 x29)).bnd fun x31 => catM x30 x31).bnd fun x32 => p_runs x32).bnd fun x34 => M.grd (s9.length < lim) ((fun v_found_33 =>
  M.ok v_found_33) (s9 ++ [x34]))) x39 v_found_3).bnd fun s35 =>
  ((M.ok s35).bnd fun x37 => srtTM x37).bnd fun x38 => M.ok x38
def p_apart (v_one : (List Int)) (v_other : (List Int)) : M (Option Int) :=
  (((M.ok v_one).bnd fun x1 => p_total x1).bnd fun x3 => ((M.ok v_other).bnd fun x2 => p_total x2).bnd fun x4 => M.ok (!decide (x3 = x4))).bnd fun c16 => if c16 = true then
  M.ok none
  else
  (((((((M.ok v_one).bnd fun x5 => p_spots_of x5).bnd fun x6 => M.ok (chars x6)).bnd fun x7 => M.ok (enumF 0 x7)).bnd fun x9 => cmpM (fun y8 => (M.ok y8.2).bnd fun x13 => (((M.ok v_other).bnd fun x10 => p_spots_of x10).bnd fun x11 => (M.ok y8.1).bnd fun x12 => ixSM x11 x12).bnd fun x14 => M.ok (!decide (x13 = x14))) (fun y8 => M.ok y8.1) x9).bnd fun x15 => M.ok (x15.length : Int)).bnd fun a => M.ok (some a))
def p_least_apart  : M Int :=
  ((((M.ok c_SIGNS).bnd fun x1 => M.ok (x1.length : Int)).bnd fun x2 => rngM 0 x2 1).bnd fun x6 => mapM (fun y3 => ((M.ok y3).bnd fun x4 => p_sign_of x4).bnd fun x5 => p_spots_of x5) x6).bnd fun v_spots_7 =>
  (M.ok (11 : Int)).bnd fun v_found_8 =>
  (((M.ok v_spots_7).bnd fun x9 => M.ok x9).bnd fun x10 => M.ok (enumF 0 x10)).bnd fun x39 => (fold (fun (a13 : (Int × (List Nat))) (s11 : (Int)) =>
  (((M.ok v_spots_7).bnd fun x15 => (M.ok none).bnd fun x16 => ((M.ok a13.1).bnd fun x14 => M.ok (some x14)).bnd fun x17 => M.ok (cut x15 x16 x17)).bnd fun x18 => M.ok x18).bnd fun x36 => (fold (fun (a21 : (List Nat)) (s19 : (Int)) =>
  ((M.ok s19).bnd fun x31 => (((((M.ok a13.2).bnd fun x22 => M.ok (chars x22)).bnd fun x23 => M.ok (enumF 0 x23)).bnd fun x25 => cmpM (fun y24 => (M.ok y24.2).bnd fun x28 => ((M.ok a21).bnd fun x26 => (M.ok y24.1).bnd fun x27 => ixSM x26 x27).bnd fun x29 => M.ok (!decide (x28 = x29))) (fun y24 => M.ok y24.1) x25).bnd fun x30 => M.ok (x30.length : Int)).bnd fun x32 => M.ok (if x32 < x31 then x32 else x31)).bnd fun v_found_33 =>
  M.ok v_found_33) x36 s11).bnd fun s34 =>
  M.ok s34) x39 v_found_8).bnd fun s37 =>
  M.ok s37
end Sh

/-! Mt1: mathematics of the plain functions: draws, rows, pictures. -/
namespace Sh
open Dk
section
variable {α β γ σ : Type}
@[simp] theorem grd_t {p : Prop} [Decidable p] {m : M α} (h : p) : M.grd p m = m := if_pos h
theorem mulIM_l {i j : Int} (h : -(2 ^ 64) < i ∧ i < 2 ^ 64) : mulIM i j = .ok (i * j) := if_pos (Or.inl h)
theorem mulIM_r {i j : Int} (h : -(2 ^ 64) < j ∧ j < 2 ^ 64) : mulIM i j = .ok (i * j) := if_pos (Or.inr h)
theorem modM_ok {i j : Int} (h : 0 < j) : modM i j = .ok (i % j) := if_pos h
theorem fdivM_ok {i j : Int} (h : 0 < j ∧ j < 1073741824) : fdivM i j = .ok (i / j) := if_pos h
theorem catM_ok {a b : List α} (h : a.length + b.length ≤ 16777216) : catM a b = .ok (a ++ b) := if_pos h
theorem rep_one (k : Nat) (c : α) : rep k [c] = List.replicate k c := by
  induction k with
  | zero => rfl
  | succ k ih => show [c] ++ rep k [c] = _; rw [ih]; rfl
theorem mulSM_ok {a : List α} {k : Int} (h0 : 0 ≤ k) (h1 : k < 2 ^ 60) (h2 : a.length * k.toNat ≤ 16777216) : mulSM a k = .ok (rep k.toNat a) := by unfold mulSM; exact if_pos ⟨by unfold fitI; simp; omega, h2⟩
theorem mulSM_one {c : α} {k : Int} (h0 : 0 ≤ k) (h1 : k ≤ 16777216) : mulSM [c] k = .ok (List.replicate k.toNat c) := by
  rw [mulSM_ok h0 (by omega) (by simp; omega), rep_one]
theorem rngM_ok {n : Int} (h0 : 0 ≤ n) (h : n ≤ 16777216) : rngM 0 n 1 = .ok ((List.range n.toNat).map fun (k : Nat) => (k : Int)) := by
  unfold rngM
  rw [grd_t (by have e : (lim : Int) = 16777216 := rfl; omega)]
  unfold rngL
  have e : ((n - 0 + 1 - 1) / 1).toNat = n.toNat := by rw [Int.ediv_one]; omega
  rw [e]
  congr 1
  refine List.map_congr_left fun k _ => ?_
  omega
theorem rng2M_ok {a n : Int} (h0 : 0 ≤ a) (h1 : a ≤ 16777216) (h2 : 0 ≤ n) (h : n ≤ 16777216) : rngM a n 1 = .ok ((List.range (n - a).toNat).map fun (k : Nat) => a + (k : Int)) := by
  unfold rngM
  rw [grd_t (by have e : (lim : Int) = 16777216 := rfl; omega)]
  unfold rngL
  have e : ((n - a + 1 - 1) / 1).toNat = (n - a).toNat := by rw [Int.ediv_one]; omega
  rw [e]
  congr 1
  refine List.map_congr_left fun k _ => ?_
  omega
theorem ixM_ok {xs : List α} {i : Int} (h0 : 0 ≤ i) (h1 : i < xs.length) : ∃ x, ixM xs i = .ok x ∧ xs[i.toNat]? = some x := by
  obtain ⟨x, e, _, k⟩ := atI_lt h0 h1
  exact ⟨x, by unfold ixM; rw [e], k⟩
theorem ixM_at {xs : List α} {i : Int} {x : α} (h0 : 0 ≤ i) (h : xs[i.toNat]? = some x) : ixM xs i = .ok x := by
  have hl : i < xs.length := by
    rcases Nat.lt_or_ge i.toNat xs.length with q | q
    · omega
    · rw [List.getElem?_eq_none q] at h; cases h
  obtain ⟨y, e, k⟩ := ixM_ok h0 hl
  rw [h] at k
  cases k
  exact e
theorem ixSM_at {xs : List Nat} {i : Int} {x : Nat} (h0 : 0 ≤ i) (h : xs[i.toNat]? = some x) : ixSM xs i = .ok [x] := by
  have hl : i < xs.length := by
    rcases Nat.lt_or_ge i.toNat xs.length with q | q
    · omega
    · rw [List.getElem?_eq_none q] at h; cases h
  obtain ⟨y, e, _, k⟩ := atI_lt h0 hl
  rw [h] at k
  cases k
  unfold ixSM
  rw [e]
theorem ixM_last {xs : List α} {x : α} : ixM (xs ++ [x]) (-1) = .ok x := by
  unfold ixM atI ixN
  have h1 : ¬ (0 : Int) ≤ -1 := by decide
  rw [if_neg h1, if_pos (by rw [List.length_append]; simp; omega)]
  have e : (-1 + ((xs ++ [x]).length : Int)).toNat = xs.length := by rw [List.length_append]; simp; omega
  show (match (xs ++ [x])[(-1 + ((xs ++ [x]).length : Int)).toNat]? with
    | some a => M.ok a
    | none => .bad) = _
  rw [e]
  simp
theorem setXM_last {xs : List α} {x y : α} : setXM (xs ++ [x]) (-1) y = .ok (xs ++ [y]) := by
  unfold setXM ixN
  have h1 : ¬ (0 : Int) ≤ -1 := by decide
  rw [if_neg h1, if_pos (by rw [List.length_append]; simp; omega)]
  have e : (-1 + ((xs ++ [x]).length : Int)).toNat = xs.length := by rw [List.length_append]; simp; omega
  simp only [e]
  congr 1
  rw [List.set_append_right _ _ (Nat.le_refl _)]
  simp
theorem bnd_eq {m : M α} {a : α} {k : α → M β} {r : M β} (h : m = .ok a) (h2 : k a = r) : m.bnd k = r := by rw [h]; exact h2
theorem bnd_of {m m' : M α} {k : α → M β} {r : M β} (h : m = m') (h2 : m'.bnd k = r) : m.bnd k = r := by rw [h]; exact h2
/-! ### loops -/
theorem loop_nx {b : α → σ → M (Stp σ β)} {s : σ} : ∀ (xs : List α), (∀ x ∈ xs, b x s = .ok (.nx s)) → loop b xs s = .ok (.nx s)
  | [], _ => rfl
  | x :: xs, h => by
    unfold loop
    rw [h x (List.mem_cons_self ..)]
    show loop b xs s = _
    exact loop_nx xs fun y hy => h y (List.mem_cons_of_mem _ hy)
theorem mapM_ok {f : α → M β} {g : α → β} : ∀ (xs : List α), (∀ x ∈ xs, f x = .ok (g x)) → mapM f xs = .ok (xs.map g)
  | [], _ => rfl
  | x :: xs, h => by
    unfold mapM
    rw [h x (List.mem_cons_self ..)]
    simp only
    rw [mapM_ok xs fun y hy => h y (List.mem_cons_of_mem _ hy)]
    rfl
theorem cmpM_ok {c : α → M Bool} {p : α → Bool} {f : α → M β} {g : α → β} : ∀ (xs : List α), (∀ x ∈ xs, c x = .ok (p x) ∧ (p x = true → f x = .ok (g x))) → cmpM c f xs = .ok ((xs.filter p).map g)
  | [], _ => rfl
  | x :: xs, h => by
    obtain ⟨h1, h2⟩ := h x (List.mem_cons_self ..)
    have ih := cmpM_ok xs fun y hy => h y (List.mem_cons_of_mem _ hy)
    unfold cmpM
    rw [h1]
    cases hp : p x with
    | true => simp only [h2 hp, ih, List.filter_cons, hp, if_true]; rfl
    | false => simp only [ih, List.filter_cons, hp, Bool.false_eq_true, if_false]
theorem fold_ok {b : α → σ → M σ} {g : σ → α → σ} (I : σ → Prop) : ∀ (xs : List α) (s : σ), I s → (∀ x ∈ xs, ∀ s, I s → b x s = .ok (g s x) ∧ I (g s x)) → fold b xs s = .ok (xs.foldl g s) ∧ I (xs.foldl g s)
  | [], s, h, _ => ⟨rfl, h⟩
  | x :: xs, s, h, k => by
    obtain ⟨e, h2⟩ := k x (List.mem_cons_self ..) s h
    unfold fold
    rw [e]
    exact fold_ok I xs (g s x) h2 fun y hy => k y (List.mem_cons_of_mem _ hy)
theorem mem_enumF {x : Int × α} : ∀ {xs : List α} {k : Nat}, x ∈ enumF k xs → (k : Int) ≤ x.1 ∧ x.1 < k + xs.length ∧ x.2 ∈ xs ∧ xs[(x.1 - k).toNat]? = some x.2
  | [], k, h => by cases h
  | y :: ys, k, h => by
    rcases List.mem_cons.mp h with rfl | h
    · simp; omega
    · obtain ⟨h1, h2, h3, h4⟩ := mem_enumF h
      refine ⟨by omega, by rw [List.length_cons]; omega, List.mem_cons_of_mem _ h3, ?_⟩
      have e : (x.1 - k).toNat = (x.1 - ((k + 1 : Nat) : Int)).toNat + 1 := by omega
      rw [e, List.getElem?_cons_succ]; exact h4
theorem joinS_nil : ∀ xs : List (List Nat), joinS [] xs = xs.flatten
  | [] => rfl
  | [x] => by simp [joinS]
  | x :: y :: r => by
    show x ++ [] ++ joinS [] (y :: r) = _
    rw [joinS_nil (y :: r)]; simp
theorem joinM_ok {xs : List (List Nat)} (h : (xs.map List.length).sum ≤ 16777216) : joinM [] xs = .ok xs.flatten := by
  unfold joinM
  rw [grd_t (by show _ ≤ 16777216; simp; exact h), joinS_nil]
end
/-! ### draws -/
theorem mix_ok {c p m : Int} (hp : 0 < p) (hp2 : p < 2 ^ 60) (hm : 0 < m) : h_mix c p m = .ok (mixI c p m) := by
  have b1 : 0 ≤ c * 48271 % p := Int.emod_nonneg _ (by omega)
  have b2 : c * 48271 % p < p := Int.emod_lt_of_pos _ hp
  unfold h_mix
  simp only [M.bnd_ok, mulIM_r (i := c) (j := 48271) (by decide), modM_ok hp, modM_ok hm, mulIM_l (i := c * 48271 % p) (j := c * 48271 % p + 7) (by omega)]
  rfl
def cellI (ns : List Int) (k : Int) : Int := ns.getD k.toNat 0
theorem cell_ok {ns : List Int} {k : Int} (h : 0 ≤ k) : h_cell ns k = .ok (cellI ns k) := by
  unfold h_cell cellI
  simp only [M.bnd_ok]
  by_cases hl : k < ns.length
  · obtain ⟨x, e, q⟩ := ixM_ok h hl
    simp only [hl, decide_true, if_true, e]
    rw [List.getD_eq_getElem?_getD, q]; rfl
  · simp only [hl, decide_false, Bool.false_eq_true, if_false]
    rw [List.getD_eq_getElem?_getD, List.getElem?_eq_none (by omega)]; rfl
def rowI (c most wide : Int) : List Int := (List.range (1 + 2 * mixI c 9973 most).toNat).map fun (j : Nat) => 1 + mixI (c + 7 * (j : Int)) 9967 wide
theorem row_ok {c most wide : Int} (h1 : 0 < most) (h2 : most ≤ 1000) (h3 : 0 < wide) : h_row c most wide = .ok (rowI c most wide) := by
  have b1 := mixI_pos (c := c) (p := 9973) h1
  have b2 := mixI_lt (c := c) (p := 9973) h1
  unfold h_row
  simp only [M.bnd_ok, mix_ok (c := c) (p := 9973) (m := most) (by decide) (by decide) h1, mulIM_l (i := 2) (by decide), rngM_ok (n := 1 + 2 * mixI c 9973 most) (by omega) (by omega)]
  rw [mapM_ok (g := fun (y : Int) => 1 + mixI (c + 7 * y) 9967 wide) _ fun x hx => by
    simp only [M.bnd_ok, mulIM_l (i := 7) (by decide), mix_ok (p := 9967) (m := wide) (by decide) (by decide) h3]]
  simp only [M.bnd_ok, List.map_map]
  rfl
/-- a row: an odd number of widths of 1 to 9 -/
structure RowOk (w : Int) (row : List Int) : Prop where
  odd : row.length % 2 = 1
  ge : ∀ x ∈ row, 1 ≤ x
  le : ∀ x ∈ row, x ≤ w
theorem rowI_ok {c most wide : Int} (h1 : 0 < most) (h3 : 0 < wide) : RowOk wide (rowI c most wide) ∧ (rowI c most wide).length < 2 * most.toNat := by
  have b1 := mixI_pos (c := c) (p := 9973) h1
  have b2 := mixI_lt (c := c) (p := 9973) h1
  refine ⟨⟨?_, ?_, ?_⟩, ?_⟩
  · unfold rowI; rw [List.length_map, List.length_range]; omega
  · intro x hx
    obtain ⟨j, _, rfl⟩ := List.mem_map.mp hx
    have := mixI_pos (c := c + 7 * (j : Int)) (p := 9967) h3
    omega
  · intro x hx
    obtain ⟨j, _, rfl⟩ := List.mem_map.mp hx
    have := mixI_lt (c := c + 7 * (j : Int)) (p := 9967) h3
    omega
  · unfold rowI; rw [List.length_map, List.length_range]; omega
/-! ### spots and runs -/
/-- the spots of widths, dark first or light first -/
def spA : Bool → List Int → List Nat
  | _, [] => []
  | b, w :: r => List.replicate w.toNat (if b then 46 else 35) ++ spA (!b) r
def spF (row : List Int) : List Nat := spA false row
def runA (c : Nat) (n : Int) : List Nat → List Int
  | [] => [n]
  | d :: r => if d = c then runA c (n + 1) r else n :: runA d 1 r
def runF : List Nat → List Int
  | [] => []
  | c :: r => runA c 1 r
theorem runA_rep (c : Nat) : ∀ (k : Nat) (n : Int) (r : List Nat), runA c n (List.replicate k c ++ r) = runA c (n + k) r
  | 0, n, r => by simp
  | k + 1, n, r => by
    show (if c = c then runA c (n + 1) (List.replicate k c ++ r) else _) = _
    rw [if_pos rfl, runA_rep c k]
    congr 1
    push_cast; omega
def colN (b : Bool) : Nat := if b then 46 else 35
theorem colN_ne (b : Bool) : colN (!b) ≠ colN b := by cases b <;> decide
theorem runA_sp : ∀ (row : List Int) (b : Bool) (n : Int), (∀ x ∈ row, 1 ≤ x) → runA (colN b) n (spA (!b) row) = n :: row
  | [], b, n, _ => rfl
  | w :: r, b, n, h => by
    have hw := h w (List.mem_cons_self ..)
    obtain ⟨k, hk⟩ : ∃ k : Nat, w.toNat = k + 1 := ⟨w.toNat - 1, by omega⟩
    show runA (colN b) n (List.replicate w.toNat (colN (!b)) ++ spA (!!b) r) = _
    rw [hk]
    show (if colN (!b) = colN b then _ else n :: runA (colN (!b)) 1 (List.replicate k (colN (!b)) ++ spA (!!b) r)) = _
    rw [if_neg (colN_ne b), runA_rep, runA_sp r (!b) _ fun x hx => h x (List.mem_cons_of_mem _ hx)]
    congr 2
    omega
theorem runF_sp (row : List Int) (b : Bool) (h : ∀ x ∈ row, 1 ≤ x) : runF (spA b row) = row := by
  cases row with
  | nil => rfl
  | cons w r =>
    have hw := h w (List.mem_cons_self ..)
    obtain ⟨k, hk⟩ : ∃ k : Nat, w.toNat = k + 1 := ⟨w.toNat - 1, by omega⟩
    show runF (List.replicate w.toNat (colN b) ++ spA (!b) r) = _
    rw [hk]
    show runA (colN b) 1 (List.replicate k (colN b) ++ spA (!b) r) = _
    rw [runA_rep, runA_sp r b _ fun x hx => h x (List.mem_cons_of_mem _ hx)]
    congr 1
    omega
theorem spA_app : ∀ (a b : List Int) (c : Bool), spA c (a ++ b) = spA c a ++ spA (if a.length % 2 = 0 then c else !c) b
  | [], b, c => by simp [spA]
  | w :: a, b, c => by
    show List.replicate _ _ ++ spA (!c) (a ++ b) = List.replicate _ _ ++ spA (!c) a ++ _
    rw [spA_app a b (!c), List.append_assoc]
    congr 2
    rw [List.length_cons]
    by_cases h : a.length % 2 = 0
    · have h2 : ¬ (a.length + 1) % 2 = 0 := by omega
      rw [if_pos h, if_neg h2]
    · have h2 : (a.length + 1) % 2 = 0 := by omega
      rw [if_neg h, if_pos h2]; cases c <;> rfl
theorem spA_rev : ∀ (row : List Int) (c : Bool), (spA c row).reverse = spA (if row.length % 2 = 0 then !c else c) row.reverse
  | [], c => by simp [spA]
  | w :: r, c => by
    show (List.replicate w.toNat (colN c) ++ spA (!c) r).reverse = _
    rw [List.reverse_append, spA_rev r (!c), List.reverse_replicate, List.reverse_cons, spA_app, List.length_reverse, List.length_cons]
    by_cases h : r.length % 2 = 0
    · have h2 : ¬ (r.length + 1) % 2 = 0 := by omega
      simp only [h, h2, if_true, if_false]
      cases c <;> simp [spA, colN]
    · have h2 : (r.length + 1) % 2 = 0 := by omega
      simp only [h, h2, if_true, if_false]
      cases c <;> simp [spA, colN]
theorem spA_len : ∀ (row : List Int) (c : Bool), (∀ x ∈ row, 0 ≤ x) → ((spA c row).length : Int) = row.sum
  | [], _, _ => rfl
  | w :: r, c, h => by
    have hw := h w (List.mem_cons_self ..)
    have ih := spA_len r (!c) fun x hx => h x (List.mem_cons_of_mem _ hx)
    show ((List.replicate w.toNat _ ++ spA (!c) r).length : Int) = _
    rw [List.length_append, List.length_replicate, List.sum_cons]
    push_cast; omega
theorem sum_le (w : Int) : ∀ (row : List Int), (∀ x ∈ row, x ≤ w) → row.sum ≤ w * row.length
  | [], _ => by simp
  | x :: r, h => by
    have hx := h x (List.mem_cons_self ..)
    have ih := sum_le w r fun y hy => h y (List.mem_cons_of_mem _ hy)
    rw [List.sum_cons, List.length_cons]
    push_cast
    rw [Int.mul_add]
    omega
theorem RowOk.sp_len {w : Int} {row : List Int} (h : RowOk w row) : ((spF row).length : Int) = row.sum := spA_len row false fun x hx => by have := h.ge x hx; omega
theorem RowOk.sp_le {w : Int} {row : List Int} (h : RowOk w row) : ((spF row).length : Int) ≤ w * row.length := by rw [h.sp_len]; exact sum_le w row h.le
theorem RowOk.run {w : Int} {row : List Int} (h : RowOk w row) : runF (spF row) = row := runF_sp row false h.ge
theorem RowOk.rev {w : Int} {row : List Int} (h : RowOk w row) : RowOk w row.reverse := ⟨by rw [List.length_reverse]; exact h.odd, fun x hx => h.ge x (List.mem_reverse.mp hx), fun x hx => h.le x (List.mem_reverse.mp hx)⟩
theorem RowOk.sp_rev {w : Int} {row : List Int} (h : RowOk w row) : (spF row).reverse = spF row.reverse := by
  unfold spF
  rw [spA_rev]
  have h1 : ¬ row.length % 2 = 0 := by have := h.odd; omega
  rw [if_neg h1]
theorem sp_mem : ∀ (row : List Int) (c : Bool), ∀ x ∈ spA c row, x = 35 ∨ x = 46
  | [], _, x, h => by cases h
  | w :: r, c, x, h => by
    rcases List.mem_append.mp h with h | h
    · have := List.eq_of_mem_replicate h
      cases c <;> simp [this]
    · exact sp_mem r (!c) x h
/-- a row's spots begin and end dark -/
theorem RowOk.head {w : Int} {row : List Int} (h : RowOk w row) : ∃ t, spF row = 35 :: t := by
  cases row with
  | nil => have := h.odd; simp at this
  | cons x r =>
    have hx := h.ge x (List.mem_cons_self ..)
    obtain ⟨k, hk⟩ : ∃ k : Nat, x.toNat = k + 1 := ⟨x.toNat - 1, by omega⟩
    refine ⟨List.replicate k 35 ++ spA true r, ?_⟩
    show List.replicate x.toNat 35 ++ spA true r = _
    rw [hk]; rfl
theorem lstrip_rep (k : Nat) (r : List Nat) : lstripS [46] (List.replicate k 46 ++ r) = lstripS [46] r := by
  induction k with
  | zero => rfl
  | succ k ih =>
    show (if ([46] : List Nat).contains 46 then lstripS [46] (List.replicate k 46 ++ r) else _) = _
    rw [if_pos (by decide), ih]
theorem lstrip_dark (r : List Nat) : lstripS [46] (35 :: r) = 35 :: r := by
  show (if ([46] : List Nat).contains 35 then _ else 35 :: r) = _
  rw [if_neg (by decide)]
theorem lstrip_all (k : Nat) : lstripS [46] (List.replicate k 46) = [] := by
  have := lstrip_rep k []
  rw [List.append_nil] at this
  rw [this]; rfl
/-- what stands between rims -/
theorem strip_rims {s : List Nat} (h1 : ∃ t, s = 35 :: t) (h2 : ∃ t, s.reverse = 35 :: t) (a b : Nat) : rstripS [46] (lstripS [46] (List.replicate a 46 ++ s ++ List.replicate b 46)) = s := by
  obtain ⟨t, ht⟩ := h1
  obtain ⟨u, hu⟩ := h2
  have e1 : lstripS [46] (List.replicate a 46 ++ s ++ List.replicate b 46) = s ++ List.replicate b 46 := by
    rw [List.append_assoc, lstrip_rep, ht]
    exact lstrip_dark _
  rw [e1]
  unfold rstripS
  rw [List.reverse_append, List.reverse_replicate, lstrip_rep, hu, lstrip_dark, ← hu, List.reverse_reverse]
end Sh

/-! Mt2: rows and pictures: what the plain functions are. -/
namespace Sh
open Dk
theorem le_sum : ∀ (row : List Int), (∀ x ∈ row, 0 ≤ x) → ∀ x ∈ row, x ≤ row.sum ∧ 0 ≤ row.sum
  | [], _, x, h => by cases h
  | y :: r, h0, x, h => by
    have hy := h0 y (List.mem_cons_self ..)
    have hr : ∀ z ∈ r, 0 ≤ z := fun z hz => h0 z (List.mem_cons_of_mem _ hz)
    have hs : 0 ≤ r.sum := by
      clear h
      induction r with
      | nil => simp
      | cons z r ih =>
        have hz := hr z (List.mem_cons_self ..)
        have := ih (fun w hw => by rcases List.mem_cons.mp hw with rfl | hw; exact hy; exact hr w (List.mem_cons_of_mem _ hw)) (fun w hw => hr w (List.mem_cons_of_mem _ hw))
        rw [List.sum_cons]; omega
    rw [List.sum_cons]
    rcases List.mem_cons.mp h with rfl | h
    · omega
    · have := (le_sum r hr x h).1
      omega
theorem enum_spA : ∀ (row : List Int) (k : Nat), ((enumF k row).map fun y => List.replicate y.2.toNat (if y.1 % 2 = 0 then 35 else 46)).flatten = spA (k % 2 == 1) row
  | [], _ => rfl
  | w :: r, k => by
    show List.replicate w.toNat (if ((k : Nat) : Int) % 2 = 0 then 35 else 46) ++ ((enumF (k + 1) r).map _).flatten = List.replicate w.toNat (if (k % 2 == 1) = true then 46 else 35) ++ spA (!(k % 2 == 1)) r
    rw [enum_spA r (k + 1)]
    rcases Nat.mod_two_eq_zero_or_one k with h | h
    · have h1 : ((k : Nat) : Int) % 2 = 0 := by omega
      have h2 : (k + 1) % 2 = 1 := by omega
      simp [h, h1, h2]
    · have h1 : ¬ ((k : Nat) : Int) % 2 = 0 := by omega
      have h2 : (k + 1) % 2 = 0 := by omega
      simp [h, h1, h2]
theorem map_len_sum {α : Type} (f : α → List Nat) (g : α → Int) : ∀ (xs : List α), (∀ x ∈ xs, ((f x).length : Int) = g x) → ((((xs.map f).map List.length).sum : Nat) : Int) = (xs.map g).sum
  | [], _ => rfl
  | x :: xs, h => by
    have h1 := h x (List.mem_cons_self ..)
    have ih := map_len_sum f g xs fun y hy => h y (List.mem_cons_of_mem _ hy)
    rw [List.map_cons, List.map_cons, List.sum_cons, List.map_cons, List.sum_cons]
    push_cast
    omega
theorem enum_snd {α : Type} : ∀ (xs : List α) (k : Nat), (enumF k xs).map (·.2) = xs
  | [], _ => rfl
  | x :: xs, k => by show x :: (enumF (k + 1) xs).map (·.2) = _; rw [enum_snd xs]
theorem spots_ok {row : List Int} (h0 : ∀ x ∈ row, 0 ≤ x) (hs : row.sum ≤ 16777216) : p_spots_of row = .ok (spF row) := by
  unfold p_spots_of
  simp only [M.bnd_ok]
  rw [mapM_ok (g := fun y => List.replicate y.2.toNat (if y.1 % 2 = 0 then 35 else 46)) _ fun y hy => by
    obtain ⟨h1, h2, h3, h4⟩ := mem_enumF hy
    have hy2 := h0 _ h3
    have hy3 := (le_sum row h0 _ h3).1
    have e : ixSM [35, 46] (y.1 % 2) = .ok [if y.1 % 2 = 0 then 35 else 46] := by
      rcases (by omega : y.1 % 2 = 0 ∨ y.1 % 2 = 1) with q | q
      · rw [q]; rfl
      · rw [q]; rfl
    simp only [modM_ok (j := 2) (by decide), M.bnd_ok, e]
    exact mulSM_one hy2 (by omega)]
  simp only [M.bnd_ok]
  have e2 := map_len_sum (fun y : Int × Int => List.replicate y.2.toNat (if y.1 % 2 = 0 then 35 else 46)) (fun y => y.2) (enumF 0 row) fun y hy => by
    have := h0 _ (mem_enumF hy).2.2.1
    rw [List.length_replicate]; omega
  rw [enum_snd] at e2
  rw [joinM_ok (by omega), enum_spA row 0]
  rfl
theorem pic_ok {row : List Int} {rim : Int} (h0 : ∀ x ∈ row, 0 ≤ x) (hs : row.sum ≤ 1000000) (h1 : 0 ≤ rim) (h2 : rim ≤ 1000000) : p_picture_of row rim = .ok (List.replicate rim.toNat 46 ++ spF row ++ List.replicate rim.toNat 46) := by
  have hl := spA_len row false h0
  unfold p_picture_of
  simp only [M.bnd_ok, mulSM_one (c := 46) h1 (by omega), spots_ok h0 (by omega)]
  rw [catM_ok (by rw [List.length_replicate]; unfold spF; omega)]
  simp only [M.bnd_ok]
  rw [catM_ok (by rw [List.length_append, List.length_replicate]; unfold spF; omega)]
theorem runs_fold {b : Int × List Nat → List Int → M (List Int)} {pic : List Nat} (hb1 : ∀ (k : Nat) (c : Nat) (init : List Int) (n : Int), 0 < k → pic[k - 1]? = some c → b ((k : Int), [c]) (init ++ [n]) = .ok (init ++ [n + 1]))
    (hb2 : ∀ (k : Nat) (c d : Nat) (s : List Int), 0 < k → pic[k - 1]? = some c → d ≠ c → s.length < 16777216 → b ((k : Int), [d]) s = .ok (s ++ [1])) :
    ∀ (rest pre : List Nat) (c : Nat) (init : List Int) (n : Int), pic = pre ++ c :: rest → init.length ≤ pre.length → pic.length ≤ 16777216 → fold b (enumF (pre.length + 1) (chars rest)) (init ++ [n]) = .ok (init ++ runA c n rest)
  | [], pre, c, init, n, _, _, _ => rfl
  | d :: rest, pre, c, init, n, hp, hl, hm => by
    have hk : pic[pre.length + 1 - 1]? = some c := by rw [hp]; simp
    have hp2 : pic = (pre ++ [c]) ++ d :: rest := by rw [hp]; simp
    have hlen : pre.length + 2 ≤ pic.length := by rw [hp]; simp
    show (b (((pre.length + 1 : Nat) : Int), [d]) (init ++ [n])).bnd (fun s => fold b (enumF (pre.length + 1 + 1) (chars rest)) s) = _
    by_cases e : d = c
    · subst e
      rw [hb1 _ _ _ _ (by omega) hk, M.bnd_ok]
      have := runs_fold hb1 hb2 rest (pre ++ [d]) d init (n + 1) hp2 (by simp; omega) hm
      rw [List.length_append] at this
      rw [show pre.length + 1 + 1 = pre.length + [d].length + 1 from rfl, this]
      congr 2
      show runA d (n + 1) rest = if d = d then _ else _
      rw [if_pos rfl]
    · rw [hb2 _ c d _ (by omega) hk e (by rw [List.length_append, List.length_singleton]; omega), M.bnd_ok]
      have := runs_fold hb1 hb2 rest (pre ++ [c]) d (init ++ [n]) 1 hp2 (by simp; omega) hm
      rw [List.length_append] at this
      rw [show pre.length + 1 + 1 = pre.length + [c].length + 1 from rfl, this, List.append_assoc]
      congr 2
      show n :: runA d 1 rest = if d = c then _ else _
      rw [if_neg e]
theorem runs_ok {pic : List Nat} (h : pic.length ≤ 16777216) : p_runs pic = .ok (runF pic) := by
  unfold p_runs
  simp only [M.bnd_ok]
  cases pic with
  | nil => rfl
  | cons c rest =>
    rw [show enumF 0 (chars (c :: rest)) = ((0 : Int), [c]) :: enumF 1 (chars rest) from rfl]
    unfold fold
    simp only [M.bnd_ok, Int.lt_irrefl, decide_false, Bool.false_eq_true, if_false, List.length_nil]
    rw [grd_t (by decide), M.bnd_ok, List.nil_append]
    refine bnd_eq (runs_fold (pic := c :: rest) ?_ ?_ rest [] c [] 1 rfl (by simp) h) rfl
    · intro k c2 init n hk hp
      have e1 : ixSM (c :: rest) ((k : Int) - 1) = .ok [c2] := ixSM_at (by omega) (by rw [show ((k : Int) - 1).toNat = k - 1 by omega]; exact hp)
      simp only [show decide ((0 : Int) < (k : Int)) = true from decide_eq_true (by omega), if_true, M.bnd_ok, e1, decide_true, ixM_last, setXM_last]
    · intro k c2 d s hk hp hne hl
      have e1 : ixSM (c :: rest) ((k : Int) - 1) = .ok [c2] := ixSM_at (by omega) (by rw [show ((k : Int) - 1).toNat = k - 1 by omega]; exact hp)
      have e2 : decide ([c2] = [d]) = false := decide_eq_false (fun q => hne (by cases q; rfl))
      simp only [show decide ((0 : Int) < (k : Int)) = true from decide_eq_true (by omega), if_true, M.bnd_ok, e1, e2, Bool.false_eq_true, if_false]
      exact grd_t hl
end Sh

/-! Mt3: rows and pictures, further. -/
namespace Sh
open Dk
theorem rowof_ok {pic : List Nat} (h : pic.length ≤ 16777216) : p_row_of pic = if rstripS [46] (lstripS [46] pic) = [] then .exc 1 else p_runs (rstripS [46] (lstripS [46] pic)) := by
  unfold p_row_of
  simp only [M.bnd_ok, decide_eq_true_eq]
theorem rowof_rims {w : Int} {row : List Int} (h : RowOk w row) (hs : row.sum ≤ 1000000) (a b : Nat) (ha : a ≤ 1000000) (hb : b ≤ 1000000) : p_row_of (List.replicate a 46 ++ spF row ++ List.replicate b 46) = .ok row := by
  have hl := h.sp_len
  have h1 := h.head
  have h2 := h.rev.head
  rw [← h.sp_rev] at h2
  have e := strip_rims h1 h2 a b
  rw [rowof_ok (by rw [List.length_append, List.length_append, List.length_replicate, List.length_replicate]; omega), e]
  obtain ⟨t, ht⟩ := h1
  rw [if_neg (by rw [ht]; simp), runs_ok (by omega), h.run]
theorem rowof_none (k : Nat) (h : k ≤ 1000000) : p_row_of (List.replicate k 46) = .exc 1 := by
  rw [rowof_ok (by rw [List.length_replicate]; omega), lstrip_all]
  rfl
theorem whole_ok (x a b : Int) : p_is_whole x a b = .ok (decide (a ≤ x) && decide (x ≤ b)) := by
  unfold p_is_whole
  simp only [M.bnd_ok, if_true, Bool.not_false]
  by_cases h : a ≤ x <;> simp [h]
theorem isrow_ok {row : List Int} (h : RowOk 9 row) (hl : row.length ≤ 199) : p_is_row row = .ok true := by
  have ho := h.odd
  unfold p_is_row
  simp only [M.bnd_ok, Bool.not_true, Bool.false_eq_true, if_false, modM_ok (j := 2) (by decide), show decide ((row.length : Int) % 2 = 0) = false from decide_eq_false (by omega), show decide (c_MOST_LONG < (row.length : Int)) = false from decide_eq_false (by show ¬ (199 : Int) < _; omega)]
  refine bnd_eq (mapM_ok (g := fun x => decide ((1 : Int) ≤ x) && decide (x ≤ 9)) _ fun x hx => whole_ok x 1 9) ?_
  congr 1
  rw [List.all_eq_true]
  intro b hb
  obtain ⟨x, hx, rfl⟩ := List.mem_map.mp hb
  have := h.ge x hx
  have := h.le x hx
  simp; omega
theorem ispic_ok {s : List Nat} (h : ∀ c ∈ s, c = 35 ∨ c = 46) : p_is_picture s = .ok (decide ((s.length : Int) ≤ 600)) := by
  unfold p_is_picture
  simp only [M.bnd_ok, if_true]
  by_cases hl : (s.length : Int) ≤ 600
  · have hl2 : (s.length : Int) ≤ c_MOST_SPOTS := hl
    simp only [hl, hl2, decide_true, if_true]
    rw [mapM_ok (g := fun _ => true) _ fun y hy => by
      obtain ⟨c, hc, rfl⟩ := List.mem_map.mp hy
      rcases h c hc with rfl | rfl <;> rfl]
    simp
  · have hl2 : ¬ (s.length : Int) ≤ c_MOST_SPOTS := hl
    simp only [hl, hl2, decide_false, Bool.false_eq_true, if_false]
theorem wider_ok {row : List Int} {t : Int} (h : -(2 ^ 64) < t ∧ t < 2 ^ 64) : p_wider row t = .ok (row.map fun x => x * t) := by
  unfold p_wider
  simp only [M.bnd_ok]
  rw [mapM_ok (g := fun x => x * t) _ fun x _ => mulIM_r h]
  rfl
theorem total_ok (row : List Int) : p_total row = .ok row.sum := Eq.trans rfl rfl
theorem turned_ok (row : List Int) : p_turned row = .ok row.reverse := Eq.trans rfl rfl
theorem cut_from {α : Type} (xs : List α) (k : Nat) : cut xs (some (k : Int)) none = xs.drop k := by
  unfold cut sIx
  have h : ¬ ((k : Int) < 0) := by omega
  simp only [h, if_false, Int.toNat_natCast]
  rcases Nat.le_total k xs.length with q | q
  · rw [Nat.min_eq_left q]
    exact List.take_of_length_le (by rw [List.length_drop]; omega)
  · rw [Nat.min_eq_right q, List.drop_eq_nil_of_le q, List.drop_length]; simp
theorem cut_to {α : Type} (xs : List α) (k : Nat) : cut xs none (some (k : Int)) = xs.take k := by
  unfold cut sIx
  have h : ¬ ((k : Int) < 0) := by omega
  simp only [h, if_false, Int.toNat_natCast, List.drop_zero, Nat.sub_zero]
  rcases Nat.le_total k xs.length with q | q
  · rw [Nat.min_eq_left q]
  · rw [Nat.min_eq_right q, List.take_of_length_le q, List.take_length]
theorem cut_mid {α : Type} (xs : List α) (a b : Nat) : cut xs (some (a : Int)) (some (b : Int)) = (xs.drop a).take (b - a) := by
  unfold cut sIx
  have h : ¬ ((a : Int) < 0) := by omega
  have h' : ¬ ((b : Int) < 0) := by omega
  simp only [h, h', if_false, Int.toNat_natCast]
  rcases Nat.le_total a xs.length with q | q
  · rw [Nat.min_eq_left q]
    rcases Nat.le_total b xs.length with q2 | q2
    · rw [Nat.min_eq_left q2]
    · rw [Nat.min_eq_right q2, List.take_of_length_le (by rw [List.length_drop]; omega), List.take_of_length_le (by rw [List.length_drop]; omega)]
  · rw [Nat.min_eq_right q, List.drop_eq_nil_of_le q, List.drop_length]; simp
theorem bars_ok (row : List Int) : p_bars row = .ok (half row) := by
  show M.ok (half (cut row (some ((0 : Nat) : Int)) none)) = _
  rw [cut_from]; rfl
theorem gaps_ok (row : List Int) : p_gaps row = .ok (half row.tail) := by
  show M.ok (half (cut row (some ((1 : Nat) : Int)) none)) = _
  rw [cut_from, List.drop_one]
theorem half_cons {α : Type} (x : α) (r : List α) : half (x :: r) = x :: half r.tail := by
  cases r with
  | nil => rfl
  | cons y r => rfl
theorem half_sum : ∀ row : List Int, (half row).sum + (half row.tail).sum = row.sum
  | [] => rfl
  | x :: r => by
    have := half_sum r
    rw [half_cons, List.sum_cons, List.tail_cons, List.sum_cons]; omega
theorem half_len {α : Type} : ∀ row : List α, (half row).length = (row.length + 1) / 2 ∧ (half row.tail).length = row.length / 2
  | [] => by simp [half]
  | x :: r => by
    have := half_len r
    rw [half_cons, List.length_cons, List.tail_cons, List.length_cons]; omega
theorem half_get {α : Type} : ∀ (row : List α) (i : Nat), (half row)[i]? = row[2 * i]? ∧ (half row.tail)[i]? = row[2 * i + 1]?
  | [], i => ⟨rfl, rfl⟩
  | x :: r, i => by
    have ih := half_get r
    rw [half_cons, List.tail_cons, List.getElem?_cons_succ]
    refine ⟨?_, (ih i).1⟩
    cases i with
    | zero => rfl
    | succ i =>
      rw [List.getElem?_cons_succ, (ih i).2]
      show _ = (x :: r)[2 * i + 1 + 1]?
      rw [List.getElem?_cons_succ]
theorem count_sp : ∀ (row : List Int) (b : Bool), (∀ x ∈ row, 0 ≤ x) → (((spA b row).count 35 : Nat) : Int) = (half (if b = true then row.tail else row)).sum
  | [], b, _ => by cases b <;> rfl
  | w :: r, b, h => by
    have hw := h w (List.mem_cons_self ..)
    have ih := count_sp r (!b) fun x hx => h x (List.mem_cons_of_mem _ hx)
    show ((List.count 35 (List.replicate w.toNat (if b then 46 else 35) ++ spA (!b) r) : Nat) : Int) = _
    rw [List.count_append]
    push_cast
    rw [ih]
    cases b with
    | true => simp [List.count_replicate]
    | false =>
      simp only [Bool.false_eq_true, if_false, Bool.not_false, if_true, half_cons, List.sum_cons, List.count_replicate_self]
      omega
theorem rep_flat (t c : Nat) : ∀ w : Nat, List.replicate (w * t) c = (List.replicate w c).flatMap fun c => List.replicate t c
  | 0 => by simp
  | w + 1 => by
    rw [List.replicate_succ, List.flatMap_cons, ← rep_flat t c w, Nat.succ_mul, Nat.add_comm, List.replicate_append_replicate]
theorem sp_wide (t : Int) (ht : 0 ≤ t) : ∀ (row : List Int) (b : Bool), (∀ x ∈ row, 0 ≤ x) → spA b (row.map fun x => x * t) = (spA b row).flatMap fun c => List.replicate t.toNat c
  | [], _, _ => rfl
  | w :: r, b, h => by
    have hw := h w (List.mem_cons_self ..)
    have ih := sp_wide t ht r (!b) fun x hx => h x (List.mem_cons_of_mem _ hx)
    show List.replicate (w * t).toNat _ ++ spA (!b) (r.map fun x => x * t) = (List.replicate w.toNat _ ++ spA (!b) r).flatMap _
    rw [ih, List.flatMap_append, ← rep_flat]
    congr 2
    obtain ⟨a, rfl⟩ := Int.eq_ofNat_of_zero_le hw
    obtain ⟨c, rfl⟩ := Int.eq_ofNat_of_zero_le ht
    show ((a : Int) * (c : Int)).toNat = a * c
    rw [← Int.natCast_mul, Int.toNat_natCast]
theorem sum_wide (t : Int) : ∀ row : List Int, (row.map fun x => x * t).sum = t * row.sum
  | [] => by simp
  | x :: r => by
    rw [List.map_cons, List.sum_cons, List.sum_cons, sum_wide t r, Int.mul_add, Int.mul_comm x t]
theorem flat_map_eq (t : Nat) (s : List Nat) : ((chars s).map fun x => rep t x).flatten = s.flatMap fun c => List.replicate t c := by
  unfold chars
  rw [List.map_map, ← List.flatMap_def]
  congr 1
  funext c
  exact rep_one t c
theorem flat_len (t : Nat) (s : List Nat) : (s.flatMap fun c => List.replicate t c).length = s.length * t := by
  induction s with
  | nil => simp
  | cons c s ih => rw [List.flatMap_cons, List.length_append, ih, List.length_replicate, List.length_cons, Nat.succ_mul, Nat.add_comm]
/-- each sign so many times, joined -/
theorem join_wide {s : List Nat} {t : Int} (h0 : 0 ≤ t) (h1 : t ≤ 1000) (hs : s.length ≤ 10000) : ((mapM (fun y => (M.ok y).bnd fun a => (M.ok t).bnd fun b => mulSM a b) (chars s)).bnd fun x => joinM [] x) = .ok (s.flatMap fun c => List.replicate t.toNat c) := by
  rw [mapM_ok (g := fun x => rep t.toNat x) _ fun y hy => by
    obtain ⟨c, _, rfl⟩ := List.mem_map.mp hy
    simp only [M.bnd_ok]
    rw [mulSM_one h0 (by omega), rep_one]]
  rw [M.bnd_ok, joinM_ok, flat_map_eq]
  have e := flat_map_eq t.toNat s
  have e2 := congrArg List.length e
  rw [List.length_flatten, flat_len] at e2
  rw [e2]
  have : t.toNat ≤ 1000 := by omega
  calc s.length * t.toNat ≤ 10000 * 1000 := Nat.mul_le_mul hs this
    _ ≤ 16777216 := by decide
theorem RowOk.both {w g : Int} {a b : List Int} (h1 : RowOk w a) (h2 : RowOk w b) (g1 : 1 ≤ g) (g2 : g ≤ w) : RowOk w (a ++ [g] ++ b) := by
  refine ⟨?_, fun x hx => ?_, fun x hx => ?_⟩
  · have := h1.odd
    have := h2.odd
    simp only [List.length_append, List.length_singleton]; omega
  · simp only [List.mem_append, List.mem_singleton] at hx
    rcases hx with (hx | rfl) | hx
    · exact h1.ge x hx
    · exact g1
    · exact h2.ge x hx
  · simp only [List.mem_append, List.mem_singleton] at hx
    rcases hx with (hx | rfl) | hx
    · exact h1.le x hx
    · exact g2
    · exact h2.le x hx
theorem sp_both {w g : Int} {a b : List Int} (h1 : RowOk w a) : spF (a ++ [g] ++ b) = spF a ++ List.replicate g.toNat 46 ++ spF b := by
  unfold spF
  rw [List.append_assoc, spA_app]
  have : ¬ a.length % 2 = 0 := by have := h1.odd; omega
  rw [if_neg this]
  show spA false a ++ (List.replicate g.toNat 46 ++ spA false b) = _
  rw [List.append_assoc]
end Sh

/-! Mt4: figures and their checks. -/
namespace Sh
open Dk
section
variable {α β σ : Type}
theorem cutI (xs : List α) {a b : Int} (ha : 0 ≤ a) (hb : 0 ≤ b) : cut xs (some a) (some b) = (xs.drop a.toNat).take (b.toNat - a.toNat) := by
  have := cut_mid xs a.toNat b.toNat
  rwa [Int.toNat_of_nonneg ha, Int.toNat_of_nonneg hb] at this
theorem cutF (xs : List α) {a : Int} (ha : 0 ≤ a) : cut xs (some a) none = xs.drop a.toNat := by
  have := cut_from xs a.toNat
  rwa [Int.toNat_of_nonneg ha] at this
theorem cutT (xs : List α) {a : Int} (ha : 0 ≤ a) : cut xs none (some a) = xs.take a.toNat := by
  have := cut_to xs a.toNat
  rwa [Int.toNat_of_nonneg ha] at this
/-- from so many ahead of the end -/
theorem cutE (xs : List α) {a : Nat} (h : a ≤ xs.length) (h0 : 0 < a) : cut xs (some (-(a : Int))) none = xs.drop (xs.length - a) := by
  unfold cut sIx
  have h1 : (-(a : Int)) < 0 := by omega
  have h2 : (-(a : Int) + (xs.length : Int)).toNat = xs.length - a := by omega
  simp only [h1, if_true, h2]
  exact List.take_of_length_le (by rw [List.length_drop]; omega)
/-- between, from the end -/
theorem cutM (xs : List α) {a b : Nat} (h : b ≤ xs.length) (h0 : 0 < b) : cut xs (some (a : Int)) (some (-(b : Int))) = (xs.take (xs.length - b)).drop a := by
  unfold cut sIx
  have h1 : (-(b : Int)) < 0 := by omega
  have h2 : (-(b : Int) + (xs.length : Int)).toNat = xs.length - b := by omega
  have h3 : ¬ (a : Int) < 0 := by omega
  simp only [h1, if_true, h2, h3, if_false, Int.toNat_natCast]
  rw [List.drop_take]
  rcases Nat.le_total a xs.length with q | q
  · rw [Nat.min_eq_left q]
  · rw [Nat.min_eq_right q, List.drop_eq_nil_of_le q, List.drop_length]; simp
theorem fold_cat {b : α → List β → M (List β)} {g : α → List β} {m N : Nat} : ∀ (xs : List α) (s : List β), (∀ a ∈ xs, ∀ s, s.length ≤ N → b a s = .ok (s ++ g a)) → (∀ a ∈ xs, (g a).length ≤ m) → s.length + xs.length * m ≤ N → fold b xs s = .ok (s ++ xs.flatMap g)
  | [], s, _, _, _ => by simp [fold]
  | a :: xs, s, hb, hg, hl => by
    have e := hb a (List.mem_cons_self ..) s (by omega)
    have ga := hg a (List.mem_cons_self ..)
    unfold fold
    rw [e, M.bnd_ok, fold_cat xs (s ++ g a) (fun a h => hb a (List.mem_cons_of_mem _ h)) (fun a h => hg a (List.mem_cons_of_mem _ h)) (by
      rw [List.length_append]
      rw [List.length_cons, Nat.succ_mul] at hl
      omega)]
    rw [List.flatMap_cons, List.append_assoc]
end
/-- signs 0 to 9 -/
def figC (c : Nat) : Bool := decide (48 ≤ c) && decide (c ≤ 57)
def figB (s : List Nat) : Bool := s.all figC
def FigOk (s : List Nat) : Prop := ∀ c ∈ s, 48 ≤ c ∧ c ≤ 57
theorem figB_iff {s : List Nat} : figB s = true ↔ FigOk s := by
  unfold figB FigOk
  rw [List.all_eq_true]
  constructor
  · intro h c hc
    have := h c hc
    unfold figC at this
    simpa using this
  · intro h c hc
    have := h c hc
    unfold figC
    simpa using this
def figs (ds : List Nat) : List Nat := ds.map fun d => 48 + d
def digsOf (s : List Nat) : List Nat := s.map fun c => c - 48
def DigOk (ds : List Nat) : Prop := ∀ d ∈ ds, d < 10
theorem figs_ok {ds : List Nat} (h : DigOk ds) : FigOk (figs ds) := fun c hc => by
  obtain ⟨d, hd, rfl⟩ := List.mem_map.mp hc
  have := h d hd
  omega
theorem figs_digs : ∀ {s : List Nat}, FigOk s → figs (digsOf s) = s
  | [], _ => rfl
  | c :: s, h => by
    have h1 := h c (List.mem_cons_self ..)
    have ih := figs_digs (s := s) fun x hx => h x (List.mem_cons_of_mem _ hx)
    show (48 + (c - 48)) :: figs (digsOf s) = _
    rw [ih, show 48 + (c - 48) = c by omega]
theorem digs_figs : ∀ (ds : List Nat), digsOf (figs ds) = ds
  | [] => rfl
  | d :: ds => by
    show (48 + d - 48) :: digsOf (figs ds) = _
    rw [digs_figs ds, show 48 + d - 48 = d by omega]
theorem digs_ok {s : List Nat} (h : FigOk s) : DigOk (digsOf s) := fun d hd => by
  obtain ⟨c, hc, rfl⟩ := List.mem_map.mp hd
  have := h c hc
  omega
theorem figs_inj {a b : List Nat} (h : figs a = figs b) : a = b := by rw [← digs_figs a, h, digs_figs]
theorem figs_len (ds : List Nat) : (figs ds).length = ds.length := List.length_map ..
theorem figs_app (a b : List Nat) : figs (a ++ b) = figs a ++ figs b := List.map_append
theorem digs_cons {c : Nat} (h : 48 ≤ c ∧ c ≤ 57) (a : Int) (r : List Nat) : digs a (c :: r) = digs (10 * a + ((c : Int) - 48)) r := by
  have e : dig c = some ((c : Int) - 48) := if_pos h
  show (match dig c with
    | some d => digs (10 * a + d) r
    | none => none) = _
  rw [e]
theorem intS_of {c : Nat} {r : List Nat} {n : Int} (hl : r.length < 600) (h : digs 0 (c :: r) = some n) : intSM (c :: r) = .ok n := by
  show M.grd (r.length < 600) (match digs 0 (c :: r) with
    | some n => M.ok n
    | none => .bad) = _
  rw [grd_t hl, h]
theorem dig_one {c : Nat} (h : 48 ≤ c ∧ c ≤ 57) : intSM [c] = .ok ((c : Int) - 48) := by
  refine intS_of (by decide) ?_
  rw [digs_cons h]
  show some (10 * 0 + ((c : Int) - 48)) = _
  congr 1
  omega
theorem dig_two {a b : Nat} (h : 48 ≤ a ∧ a ≤ 57) (h2 : 48 ≤ b ∧ b ≤ 57) : intSM [a, b] = .ok (10 * ((a : Int) - 48) + ((b : Int) - 48)) := by
  refine intS_of (by simp) ?_
  rw [digs_cons h, digs_cons h2]
  show some (10 * (10 * 0 + ((a : Int) - 48)) + ((b : Int) - 48)) = _
  congr 1
  omega
theorem fig_mem (c : Nat) : c_FIGURES.contains c = figC c := by
  by_cases h : c < 100
  · have : ∀ c : Fin 100, c_FIGURES.contains c.val = figC c.val := by decide
    exact this ⟨c, h⟩
  · have h1 : figC c = false := by
      unfold figC
      have : ¬ c ≤ 57 := by omega
      simp [this]
    rw [h1, Bool.eq_false_iff]
    intro hc
    have hm : c ∈ c_FIGURES := List.contains_iff_mem.mp hc
    have : ∀ x ∈ c_FIGURES, x < 100 := by decide
    exact h (this c hm)
theorem fig_at {d : Nat} (h : d < 10) : ixSM c_FIGURES (d : Int) = .ok [48 + d] := by
  have : ∀ d : Fin 10, c_FIGURES[d.val]? = some (48 + d.val) := by decide
  exact ixSM_at (by omega) (by rw [Int.toNat_natCast]; exact this ⟨d, h⟩)
theorem fig_idx {c : Nat} (h : 48 ≤ c ∧ c ≤ 57) : idxM c_FIGURES [c] = .ok ((c : Int) - 48) := by
  have h1 : c_FIGURES.contains c = true := by rw [fig_mem]; unfold figC; simp [h]
  show M.grd (c_FIGURES.contains c = true) (.ok (c_FIGURES.idxOf c : Int)) = _
  rw [grd_t h1]
  have : ∀ d : Fin 10, c_FIGURES.idxOf (48 + d.val) = d.val := by decide
  have e := this ⟨c - 48, by omega⟩
  dsimp only at e
  rw [show 48 + (c - 48) = c by omega] at e
  rw [e]
  congr 1
  omega
theorem areF_ok (s : List Nat) : p_are_figures s = .ok (figB s) := by
  unfold p_are_figures
  simp only [M.bnd_ok]
  refine bnd_eq (mapM_ok (g := fun y => figC (y.headD 0)) _ fun y hy => ?_) ?_
  · obtain ⟨c, _, rfl⟩ := List.mem_map.mp hy
    show M.ok (c_FIGURES.contains c) = _
    rw [fig_mem]; rfl
  · congr 1
    unfold chars figB
    rw [List.map_map, List.all_map]
    rfl
/-- the last one once, that ahead of it three times, and so on: of figures from the last one on -/
def wA : Int → List Nat → Int
  | _, [] => 0
  | w, c :: r => ((c : Int) - 48) * w + wA (4 - w) r
def wgt (s : List Nat) : Int := wA 1 s.reverse
theorem wA_enum : ∀ (r : List Nat) (k : Nat), ((enumF k (chars r)).map fun y => ((y.2.headD 0 : Nat) - 48 : Int) * (if y.1 % 2 = 0 then 1 else 3)).sum = wA (if k % 2 = 0 then 1 else 3) r
  | [], _ => rfl
  | c :: r, k => by
    show (((c : Int) - 48) * (if (k : Int) % 2 = 0 then 1 else 3) :: (enumF (k + 1) (chars r)).map _).sum = _
    rw [List.sum_cons, wA_enum r (k + 1)]
    show _ = ((c : Int) - 48) * _ + wA (4 - _) r
    rcases Nat.mod_two_eq_zero_or_one k with h | h
    · have h1 : (k : Int) % 2 = 0 := by omega
      have h2 : ¬ (k + 1) % 2 = 0 := by omega
      rw [if_pos h, if_pos h1, if_neg h2]; rfl
    · have h1 : ¬ (k : Int) % 2 = 0 := by omega
      have h2 : (k + 1) % 2 = 0 := by omega
      have h3 : ¬ k % 2 = 0 := by omega
      rw [if_neg h3, if_neg h1, if_pos h2]; rfl
theorem weighed_ok {s : List Nat} (h : FigOk s) : p_weighed s = .ok (wgt s) := by
  unfold p_weighed
  simp only [M.bnd_ok]
  refine bnd_eq (mapM_ok (g := fun y => ((y.2.headD 0 : Nat) - 48 : Int) * (if y.1 % 2 = 0 then 1 else 3)) _ fun y hy => ?_) ?_
  · obtain ⟨h1, h2, h3, h4⟩ := mem_enumF hy
    obtain ⟨c, hc, e⟩ := List.mem_map.mp h3
    have hf := h c (List.mem_reverse.mp hc)
    have e2 : ixM [(1 : Int), 3] (y.1 % 2) = .ok (if y.1 % 2 = 0 then 1 else 3) := by
      rcases (by omega : y.1 % 2 = 0 ∨ y.1 % 2 = 1) with q | q
      · rw [q]; rfl
      · rw [q]; rfl
    rw [← e, dig_one hf]
    simp only [M.bnd_ok, modM_ok (j := 2) (by decide), e2, List.headD_cons]
    exact mulIM_l (by omega)
  · rw [wA_enum s.reverse 0]; rfl
theorem fits_ok {s : List Nat} (h : FigOk s) : p_fits s = .ok (decide (wgt s % 10 = 0)) := by
  unfold p_fits
  simp only [M.bnd_ok, weighed_ok h, modM_ok (j := 10) (by decide)]
theorem wgt_snoc (s : List Nat) (c : Nat) : wgt (s ++ [c]) = ((c : Int) - 48) + wA 3 s.reverse := by
  unfold wgt
  rw [List.reverse_append]
  show ((c : Int) - 48) * 1 + wA (4 - 1) s.reverse = _
  rw [Int.mul_one]; rfl
/-- the check's digit -/
def chkD (s : List Nat) : Nat := ((0 - wgt (s ++ [48])) % 10).toNat
theorem chkD_lt (s : List Nat) : chkD s < 10 := by unfold chkD; omega
theorem check_ok {s : List Nat} (h : FigOk s) (hl : s.length ≤ 1000000) : p_check_of s = .ok [48 + chkD s] := by
  have h2 : FigOk (s ++ [48]) := fun c hc => by
    rcases List.mem_append.mp hc with q | q
    · exact h c q
    · have : c = 48 := by simpa using q
      omega
  unfold p_check_of
  simp only [M.bnd_ok]
  rw [catM_ok (by simp; omega)]
  simp only [M.bnd_ok, weighed_ok h2, modM_ok (j := 10) (by decide)]
  have e : (0 - wgt (s ++ [48])) % 10 = ((chkD s : Nat) : Int) := by unfold chkD; omega
  rw [e]
  exact fig_at (chkD_lt s)
theorem check_fits (s : List Nat) : wgt (s ++ [48 + chkD s]) % 10 = 0 := by
  rw [wgt_snoc]
  have := wgt_snoc s 48
  unfold chkD
  omega
theorem fig_snoc {s : List Nat} {d : Nat} (h : FigOk s) (hd : d < 10) : FigOk (s ++ [48 + d]) := fun c hc => by
  rcases List.mem_append.mp hc with q | q
  · exact h c q
  · have : c = 48 + d := by simpa using q
    omega
/-! ### drawn figures -/
def figI (c : Int) (n : Nat) : List Nat := (List.range n).map fun (j : Nat) => 48 + (mixI (c + 11 * (j : Int)) 9949 10).toNat
theorem figI_ok (c : Int) (n : Nat) : FigOk (figI c n) := fun x hx => by
  obtain ⟨j, _, rfl⟩ := List.mem_map.mp hx
  have := mixI_pos (c := c + 11 * (j : Int)) (p := 9949) (m := 10) (by decide)
  have := mixI_lt (c := c + 11 * (j : Int)) (p := 9949) (m := 10) (by decide)
  omega
theorem figI_len (c : Int) (n : Nat) : (figI c n).length = n := by unfold figI; rw [List.length_map, List.length_range]
theorem flat_one (f : Nat → Nat) : ∀ xs : List Nat, (xs.map fun x => [f x]).flatten = xs.map f
  | [] => rfl
  | x :: xs => by simp [flat_one f xs]
theorem figures_ok {c n : Int} (h0 : 0 ≤ n) (h1 : n ≤ 100000) : h_figures c n = .ok (figI c n.toNat) := by
  unfold h_figures
  rw [M.bnd_ok, M.bnd_ok, rngM_ok h0 (by omega), M.bnd_ok]
  rw [mapM_ok (g := fun (y : Int) => [48 + (mixI (c + 11 * y) 9949 10).toNat]) _ fun y hy => by
    have b1 := mixI_pos (c := c + 11 * y) (p := 9949) (m := 10) (by decide)
    have b2 := mixI_lt (c := c + 11 * y) (p := 9949) (m := 10) (by decide)
    simp only [M.bnd_ok, mulIM_l (i := 11) (by decide), mix_ok (p := 9949) (m := 10) (by decide) (by decide) (by decide)]
    have e : mixI (c + 11 * y) 9949 10 = (((mixI (c + 11 * y) 9949 10).toNat : Nat) : Int) := by omega
    rw [e]
    exact fig_at (by omega)]
  rw [M.bnd_ok]
  have e : (((List.range n.toNat).map fun (k : Nat) => (k : Int)).map fun (y : Int) => [48 + (mixI (c + 11 * y) 9949 10).toNat]) = (List.range n.toNat).map fun (j : Nat) => [48 + (mixI (c + 11 * (j : Int)) 9949 10).toNat] := by
    rw [List.map_map]; rfl
  rw [e]
  have el : ∀ xs : List Nat, ((xs.map fun (j : Nat) => [48 + (mixI (c + 11 * (j : Int)) 9949 10).toNat]).map List.length).sum = xs.length := fun xs => by
    induction xs with
    | nil => rfl
    | cons x xs ih => rw [List.map_cons, List.map_cons, List.sum_cons, ih]; simp; omega
  rw [joinM_ok (by rw [el, List.length_range]; omega), flat_one (fun (j : Nat) => 48 + (mixI (c + 11 * (j : Int)) 9949 10).toNat)]
  rfl
end Sh

/-! Mt5: thirteens. -/
namespace Sh
open Dk
def oddD (d : Nat) : List Int := c_ODD.getD d []
def manD (d : Nat) : List Nat := c_MANNERS.getD d []
/-- four widths: a figure, its manner -/
def wid (p : Nat × Nat) : List Int := if p.2 = 111 then oddD p.1 else (oddD p.1).reverse
theorem odd_len {d : Nat} (h : d < 10) : (oddD d).length = 4 := by
  have : ∀ d : Fin 10, (oddD d.val).length = 4 := by decide
  exact this ⟨d, h⟩
theorem wid_len {p : Nat × Nat} (h : p.1 < 10) : (wid p).length = 4 := by
  unfold wid
  split
  · exact odd_len h
  · rw [List.length_reverse]; exact odd_len h
theorem odd_at {d : Nat} (h : d < 10) : ixM c_ODD (d : Int) = .ok (oddD d) := by
  have : ∀ d : Fin 10, c_ODD[d.val]? = some (oddD d.val) := by decide
  exact ixM_at (by omega) (by rw [Int.toNat_natCast]; exact this ⟨d, h⟩)
theorem man_at {d : Nat} (h : d < 10) : ixM c_MANNERS (d : Int) = .ok (manD d) := by
  have : ∀ d : Fin 10, c_MANNERS[d.val]? = some (manD d.val) := by decide
  exact ixM_at (by omega) (by rw [Int.toNat_natCast]; exact this ⟨d, h⟩)
theorem man_len {d : Nat} (h : d < 10) : (manD d).length = 6 ∧ ∀ m ∈ manD d, m = 111 ∨ m = 101 := by
  have : ∀ d : Fin 10, (manD d.val).length = 6 ∧ ∀ m ∈ manD d.val, m = 111 ∨ m = 101 := by decide
  exact this ⟨d, h⟩
/-- the row of thirteen digits -/
def thF (ds : List Nat) : List Int := [1, 1, 1] ++ (((ds.drop 1).take 6).zip (manD (ds.headD 0))).flatMap wid ++ [1, 1, 1, 1, 1] ++ (ds.drop 7).flatMap oddD ++ [1, 1, 1]
structure ThOk (ds : List Nat) : Prop where
  len : ds.length = 13
  dig : DigOk ds
  fit : wgt (figs ds) % 10 = 0
theorem zip_chars (xs ys : List Nat) : (chars xs).zip (chars ys) = (xs.zip ys).map fun p => ([p.1], [p.2]) := by
  unfold chars
  induction xs generalizing ys with
  | nil => rfl
  | cons x xs ih => cases ys with
    | nil => rfl
    | cons y ys => simp [ih]
theorem flat_len4 {α : Type} {f : α → List Int} : ∀ (xs : List α), (∀ x ∈ xs, (f x).length = 4) → (xs.flatMap f).length = 4 * xs.length
  | [], _ => rfl
  | x :: xs, h => by
    rw [List.flatMap_cons, List.length_append, h x (List.mem_cons_self ..), flat_len4 xs fun y hy => h y (List.mem_cons_of_mem _ hy), List.length_cons]; omega
theorem left_ps {ds : List Nat} (h : DigOk ds) (hl : ds.length = 13) : (∀ p ∈ ((ds.drop 1).take 6).zip (manD (ds.headD 0)), p.1 < 10 ∧ (p.2 = 111 ∨ p.2 = 101)) ∧ (((ds.drop 1).take 6).zip (manD (ds.headD 0))).length = 6 := by
  have hd : ds.headD 0 < 10 := by
    cases ds with
    | nil => cases hl
    | cons d ds => exact h d (List.mem_cons_self ..)
  obtain ⟨m1, m2⟩ := man_len hd
  refine ⟨fun p hp => ⟨h _ ?_, m2 _ (List.of_mem_zip hp).2⟩, ?_⟩
  · exact List.mem_of_mem_drop (List.mem_of_mem_take (List.of_mem_zip hp).1)
  · rw [List.length_zip, List.length_take, List.length_drop, m1]; omega
theorem thF_len {ds : List Nat} (h : DigOk ds) (hl : ds.length = 13) : (thF ds).length = 59 := by
  obtain ⟨a, b⟩ := left_ps h hl
  unfold thF
  simp only [List.length_append, flat_len4 _ (fun p hp => wid_len (a p hp).1), b, flat_len4 (f := oddD) (ds.drop 7) (fun d hd => odd_len (h d (List.mem_of_mem_drop hd))), List.length_drop, hl, List.length_cons, List.length_nil]
theorem th_c2 {t : List Nat} (h : FigOk t) (hl : t.length = 13) : p_thirteen_row_c2 t = .ok (thF (digsOf t)) := by
  have hg := digs_ok h
  have hlg : (digsOf t).length = 13 := by unfold digsOf; rw [List.length_map, hl]
  obtain ⟨c, r, rfl⟩ : ∃ c r, t = c :: r := by
    cases t with
    | nil => cases hl
    | cons c r => exact ⟨c, r, rfl⟩
  have hc := h c (List.mem_cons_self ..)
  obtain ⟨a, b⟩ := left_ps hg hlg
  have hm : ixM c_MANNERS ((c : Int) - 48) = .ok (manD (c - 48)) := by
    have := man_at (d := c - 48) (by omega)
    rwa [show ((c - 48 : Nat) : Int) = (c : Int) - 48 by omega] at this
  have e1 : ixSM (c :: r) 0 = .ok [c] := ixSM_at (by decide) rfl
  unfold p_thirteen_row_c2
  simp only [M.bnd_ok, cutI (c :: r) (a := 1) (b := 7) (by decide) (by decide), e1, dig_one hc, hm, zip_chars]
  refine bnd_eq (fold_cat (m := 4) (N := 1000) (g := fun a => wid (a.1.headD 0 - 48, a.2.headD 0)) _ _ ?_ ?_ ?_) ?_
  · intro p hp s hs
    obtain ⟨q, hq, rfl⟩ := List.mem_map.mp hp
    have hq1 : q.1 ∈ c :: r := List.mem_of_mem_drop (List.mem_of_mem_take (List.of_mem_zip hq).1)
    have hf := h _ hq1
    have ho : ixM c_ODD ((q.1 : Int) - 48) = .ok (oddD (q.1 - 48)) := by
      have := odd_at (d := q.1 - 48) (by omega)
      rwa [show ((q.1 - 48 : Nat) : Int) = (q.1 : Int) - 48 by omega] at this
    simp only [M.bnd_ok, dig_one hf, ho]
    have hw : (if decide ([q.2] = [111]) = true then M.ok (oddD (q.1 - 48)) else M.ok (oddD (q.1 - 48)).reverse) = .ok (wid (q.1 - 48, q.2)) := by
      unfold wid
      by_cases e : q.2 = 111
      · simp [e]
      · simp [e]
    rw [hw, M.bnd_ok, catM_ok (by have := wid_len (p := (q.1 - 48, q.2)) (by show q.1 - 48 < 10; omega); omega)]
    rfl
  · intro p hp
    obtain ⟨q, hq, rfl⟩ := List.mem_map.mp hp
    have hq1 : q.1 ∈ c :: r := List.mem_of_mem_drop (List.mem_of_mem_take (List.of_mem_zip hq).1)
    have hf := h _ hq1
    exact Nat.le_of_eq (wid_len (by show q.1 - 48 < 10; omega))
  · rw [List.length_map, List.length_zip, List.length_take]
    show ([1, 1, 1] : List Int).length + _ ≤ 1000
    simp only [List.length_cons, List.length_nil]
    omega
  · have ez : ((((List.drop (1 : Int).toNat (c :: r)).take ((7 : Int).toNat - (1 : Int).toNat)).zip (manD (c - 48))).map (fun p => ([p.1], [p.2]))).flatMap (fun a => wid (a.1.headD 0 - 48, a.2.headD 0)) = ((((digsOf (c :: r)).drop 1).take 6).zip (manD ((digsOf (c :: r)).headD 0))).flatMap wid := by
      rw [List.flatMap_map]
      show _ = (((digsOf r).take 6).zip (manD (c - 48))).flatMap wid
      show ((r.take 6).zip (manD (c - 48))).flatMap _ = _
      unfold digsOf
      rw [← List.map_take, List.zip_map_left, List.flatMap_map]
      rfl
    rw [ez]
    have hlen : ([1, 1, 1] ++ ((((digsOf (c :: r)).drop 1).take 6).zip (manD ((digsOf (c :: r)).headD 0))).flatMap wid).length = 27 := by
      rw [List.length_append, flat_len4 _ (fun p hp => wid_len (a p hp).1), b]; rfl
    rw [show thF (digsOf (c :: r)) = (([1, 1, 1] ++ ((((digsOf (c :: r)).drop 1).take 6).zip (manD ((digsOf (c :: r)).headD 0))).flatMap wid) ++ [1, 1, 1, 1, 1] ++ ((digsOf (c :: r)).drop 7).flatMap oddD ++ [1, 1, 1]) from rfl]
    show p_thirteen_row_c3 (c :: r) ([1, 1, 1] ++ ((((digsOf (c :: r)).drop 1).take 6).zip (manD ((digsOf (c :: r)).headD 0))).flatMap wid) = _
    generalize ([1, 1, 1] ++ ((((digsOf (c :: r)).drop 1).take 6).zip (manD ((digsOf (c :: r)).headD 0))).flatMap wid : List Int) = lef at hlen ⊢
    unfold p_thirteen_row_c3
    simp only [M.bnd_ok]
    rw [catM_ok (by rw [hlen]; decide)]
    simp only [M.bnd_ok, cutF (c :: r) (a := 7) (by decide)]
    refine bnd_eq (fold_cat (m := 4) (N := 1000) (g := fun a => oddD (a.headD 0 - 48)) _ _ ?_ ?_ ?_) ?_
    · intro p hp s hs
      obtain ⟨q, hq, rfl⟩ := List.mem_map.mp hp
      have hf := h _ (List.mem_of_mem_drop hq)
      have ho : ixM c_ODD ((q : Int) - 48) = .ok (oddD (q - 48)) := by
        have := odd_at (d := q - 48) (by omega)
        rwa [show ((q - 48 : Nat) : Int) = (q : Int) - 48 by omega] at this
      have hl4 := odd_len (d := q - 48) (by omega)
      simp only [M.bnd_ok, dig_one hf, ho]
      rw [catM_ok (by omega)]
      rfl
    · intro p hp
      obtain ⟨q, hq, rfl⟩ := List.mem_map.mp hp
      have hf := h _ (List.mem_of_mem_drop hq)
      exact Nat.le_of_eq (odd_len (by show q - 48 < 10; omega))
    · rw [List.length_append, hlen]
      unfold chars
      rw [List.length_map, List.length_drop, hl]
      decide
    · have e2 : (chars (List.drop (7 : Int).toNat (c :: r))).flatMap (fun a => oddD (a.headD 0 - 48)) = ((digsOf (c :: r)).drop 7).flatMap oddD := by
        unfold chars digsOf
        rw [List.flatMap_map, ← List.map_drop, List.flatMap_map]
        rfl
      rw [e2]
      have hl2 : (((digsOf (c :: r)).drop 7).flatMap oddD).length = 24 := by
        rw [flat_len4 (f := oddD) _ (fun d hd => odd_len (hg d (List.mem_of_mem_drop hd))), List.length_drop, hlg]
      unfold p_thirteen_row_c4
      simp only [M.bnd_ok]
      rw [catM_ok (by
        simp only [List.length_append, hlen, hl2]
        decide)]
      rfl
/-- the figures as they are written: twelve take their check -/
def thT (s : List Nat) : List Nat := if s.length = 12 ∧ figB s = true then s ++ [48 + chkD s] else s
theorem th_c1 (t : List Nat) : p_thirteen_row_c1 t = if t.length = 13 ∧ figB t = true ∧ wgt t % 10 = 0 then .ok (thF (digsOf t)) else .exc 2 := by
  unfold p_thirteen_row_c1
  simp only [M.bnd_ok, areF_ok]
  by_cases h1 : t.length = 13
  · have h1' : ((t.length : Int) = 13) := by omega
    by_cases h2 : figB t = true
    · have hf := figB_iff.mp h2
      simp only [h1', h2, decide_true, Bool.not_true, Bool.false_eq_true, if_false, fits_ok hf, M.bnd_ok]
      by_cases h3 : wgt t % 10 = 0
      · simp only [h3, decide_true, Bool.not_true, Bool.false_eq_true, if_false, h1, and_self, if_true]
        exact th_c2 hf h1
      · simp [h3]
    · have h2' : figB t = false := by simpa using h2
      simp [h1', h2']
  · have h1' : ¬ ((t.length : Int) = 13) := by omega
    simp [h1, h1']
theorem th_row {s : List Nat} (hl : s.length ≤ 1000) : p_thirteen_row s = if (thT s).length = 13 ∧ figB (thT s) = true ∧ wgt (thT s) % 10 = 0 then .ok (thF (digsOf (thT s))) else .exc 2 := by
  unfold p_thirteen_row thT
  simp only [M.bnd_ok, areF_ok]
  by_cases h1 : s.length = 12
  · have h1' : ((s.length : Int) = 12) := by omega
    by_cases h2 : figB s = true
    · have hf := figB_iff.mp h2
      simp only [h1', h1, h2, decide_true, if_true, and_self, M.bnd_ok, check_ok hf (by omega)]
      rw [catM_ok (by simp; omega), M.bnd_ok]
      exact th_c1 _
    · have h2' : figB s = false := by simpa using h2
      simp only [h1', h2', decide_true, if_true, Bool.false_eq_true, if_false, and_false, M.bnd_ok]
      have := th_c1 s
      rw [h2'] at this
      simpa using this
  · have h1' : ¬ ((s.length : Int) = 12) := by omega
    simp only [h1', h1, decide_false, Bool.false_eq_true, if_false, false_and, M.bnd_ok]
    exact th_c1 _
theorem th_12 {s : List Nat} (h : FigOk s) (hl : s.length = 12) : p_thirteen_row s = .ok (thF (digsOf (s ++ [48 + chkD s]))) ∧ ThOk (digsOf (s ++ [48 + chkD s])) := by
  have h2 := figB_iff.mpr h
  have h3 := fig_snoc h (chkD_lt s)
  have h4 := check_fits s
  constructor
  · rw [th_row (by omega)]
    unfold thT
    have e : (if s.length = 12 ∧ figB s = true then s ++ [48 + chkD s] else s) = s ++ [48 + chkD s] := if_pos ⟨hl, h2⟩
    rw [e]
    exact if_pos ⟨by rw [List.length_append, hl]; rfl, figB_iff.mpr h3, h4⟩
  · exact ⟨by unfold digsOf; rw [List.length_map, List.length_append, hl]; rfl, digs_ok h3, by rw [figs_digs h3]; exact h4⟩
theorem th_13 {s : List Nat} (h : FigOk s) (hl : s.length = 13) (h4 : wgt s % 10 = 0) : p_thirteen_row s = .ok (thF (digsOf s)) := by
  rw [th_row (by omega)]
  unfold thT
  have : ¬ s.length = 12 := by omega
  simp only [this, false_and, if_false]
  rw [if_pos ⟨hl, figB_iff.mpr h, h4⟩]
end Sh

/-! Mt6: thirteens read. -/
namespace Sh
open Dk
theorem mem_odd {w : List Int} : memB w c_ODD = true ↔ ∃ d, d < 10 ∧ w = oddD d := by
  rw [memB_iff]
  have e : c_ODD = (List.range 10).map oddD := by decide
  constructor
  · intro h
    rw [e] at h
    obtain ⟨d, hd, rfl⟩ := List.mem_map.mp h
    exact ⟨d, List.mem_range.mp hd, rfl⟩
  · rintro ⟨d, hd, rfl⟩
    rw [e]
    exact List.mem_map.mpr ⟨d, List.mem_range.mpr hd, rfl⟩
theorem odd_mem {d : Nat} (h : d < 10) : memB (oddD d) c_ODD = true := mem_odd.mpr ⟨d, h, rfl⟩
theorem rev_mem {d : Nat} (h : d < 10) : memB (oddD d).reverse c_ODD = false := by
  have : ∀ d : Fin 10, memB (oddD d.val).reverse c_ODD = false := by decide
  exact this ⟨d, h⟩
theorem odd_idx {d : Nat} (h : d < 10) : idxTM c_ODD (oddD d) = .ok (d : Int) := by
  have h1 := odd_mem h
  have : ∀ d : Fin 10, ixF (oddD d.val) c_ODD = d.val := by decide
  unfold idxTM
  rw [grd_t h1]
  congr 2
  exact this ⟨d, h⟩
theorem odd_inj {a b : Nat} (ha : a < 10) (hb : b < 10) (h : oddD a = oddD b) : a = b := by
  have : ∀ a b : Fin 10, oddD a.val = oddD b.val → a = b := by decide
  exact congrArg Fin.val (this ⟨a, ha⟩ ⟨b, hb⟩ h)
theorem mem_man {m : List Nat} : memB m c_MANNERS = true ↔ ∃ d, d < 10 ∧ m = manD d := by
  rw [memB_iff]
  have e : c_MANNERS = (List.range 10).map manD := by decide
  constructor
  · intro h
    rw [e] at h
    obtain ⟨d, hd, rfl⟩ := List.mem_map.mp h
    exact ⟨d, List.mem_range.mp hd, rfl⟩
  · rintro ⟨d, hd, rfl⟩
    rw [e]
    exact List.mem_map.mpr ⟨d, List.mem_range.mpr hd, rfl⟩
theorem man_idx {d : Nat} (h : d < 10) : idxTM c_MANNERS (manD d) = .ok (d : Int) := by
  have h1 := mem_man.mpr ⟨d, h, rfl⟩
  have : ∀ d : Fin 10, ixF (manD d.val) c_MANNERS = d.val := by decide
  unfold idxTM
  rw [grd_t h1]
  congr 2
  exact this ⟨d, h⟩
theorem man_inj {a b : Nat} (ha : a < 10) (hb : b < 10) (h : manD a = manD b) : a = b := by
  have : ∀ a b : Fin 10, manD a.val = manD b.val → a = b := by decide
  exact congrArg Fin.val (this ⟨a, ha⟩ ⟨b, hb⟩ h)
/-- of four widths the figure and the manner -/
def blk (w : List Int) : Option (Nat × Nat) := if memB w c_ODD = true then some (ixF w c_ODD, 111) else if memB w.reverse c_ODD = true then some (ixF w.reverse c_ODD, 101) else none
def PsOk (p : Nat × Nat) : Prop := p.1 < 10 ∧ (p.2 = 111 ∨ p.2 = 101)
theorem blk_wid {p : Nat × Nat} (h : PsOk p) : blk (wid p) = some p := by
  obtain ⟨d, m⟩ := p
  obtain ⟨h1, h2⟩ := h
  have : ∀ d : Fin 10, ixF (oddD d.val) c_ODD = d.val := by decide
  have e := this ⟨d, h1⟩
  dsimp only at h1 h2 e
  unfold blk wid
  rcases h2 with rfl | rfl
  · simp only [if_true, odd_mem h1, e]
  · simp only [show ¬ (101 = 111) by decide, if_false, rev_mem h1, Bool.false_eq_true, List.reverse_reverse, odd_mem h1, if_true, e]
theorem blk_some {w : List Int} {p : Nat × Nat} (h : blk w = some p) : PsOk p ∧ w = wid p := by
  unfold blk at h
  split at h
  · rename_i hm
    obtain ⟨d, hd, rfl⟩ := mem_odd.mp hm
    have e := blk_wid (p := (d, 111)) ⟨hd, .inl rfl⟩
    unfold blk wid at e
    simp only [if_true, odd_mem hd] at e
    rw [e] at h
    cases h
    exact ⟨⟨hd, .inl rfl⟩, by unfold wid; rfl⟩
  · split at h
    · rename_i hm
      obtain ⟨d, hd, e⟩ := mem_odd.mp hm
      have hw : w = (oddD d).reverse := by rw [← e, List.reverse_reverse]
      have e2 := blk_wid (p := (d, 101)) ⟨hd, .inr rfl⟩
      unfold blk wid at e2
      simp only [show ¬ (101 = 111) by decide, if_false, rev_mem hd, Bool.false_eq_true, List.reverse_reverse, odd_mem hd, if_true] at e2
      rw [e, e2] at h
      cases h
      exact ⟨⟨hd, .inr rfl⟩, by unfold wid; simp [hw]⟩
    · cases h
def leftL : List (List Int) → Option (List (Nat × Nat))
  | [] => some []
  | w :: r => match blk w with
    | none => none
    | some p => (leftL r).map (p :: ·)
theorem leftL_iff : ∀ {ws : List (List Int)} {ps : List (Nat × Nat)}, leftL ws = some ps ↔ (∀ p ∈ ps, PsOk p) ∧ ws = ps.map wid
  | [], ps => by
    unfold leftL
    constructor
    · intro h; cases h; exact ⟨by simp, rfl⟩
    · rintro ⟨_, h⟩
      cases ps with
      | nil => rfl
      | cons p ps => cases h
  | w :: ws, ps => by
    unfold leftL
    constructor
    · intro h
      cases hb : blk w with
      | none => simp only [hb] at h; cases h
      | some p =>
        simp only [hb] at h
        obtain ⟨qs, hq, rfl⟩ := Option.map_eq_some_iff.mp h
        obtain ⟨h1, h2⟩ := leftL_iff.mp hq
        obtain ⟨b1, b2⟩ := blk_some hb
        refine ⟨fun q hq => ?_, by rw [List.map_cons, ← b2, ← h2]⟩
        rcases List.mem_cons.mp hq with rfl | hq
        · exact b1
        · exact h1 q hq
    · rintro ⟨h1, h2⟩
      cases ps with
      | nil => cases h2
      | cons p ps =>
        rw [List.map_cons] at h2
        injection h2 with h3 h4
        rw [h3, blk_wid (h1 p (List.mem_cons_self ..))]
        simp only
        rw [leftL_iff.mpr ⟨fun q hq => h1 q (List.mem_cons_of_mem _ hq), h4⟩]
        rfl
/-- the left side's figures, the hidden one first -/
def lefO (ws : List (List Int)) : Option (List Nat) := match leftL ws with
  | none => none
  | some ps => if memB (ps.map (·.2)) c_MANNERS = true then some ((48 + ixF (ps.map (·.2)) c_MANNERS) :: figs (ps.map (·.1))) else none
theorem blk_cases (w : List Int) : (memB w c_ODD = true ∧ ∃ d, d < 10 ∧ w = oddD d ∧ blk w = some (d, 111)) ∨ (memB w c_ODD = false ∧ memB w.reverse c_ODD = true ∧ ∃ d, d < 10 ∧ w.reverse = oddD d ∧ blk w = some (d, 101)) ∨ (memB w c_ODD = false ∧ memB w.reverse c_ODD = false ∧ blk w = none) := by
  cases h1 : memB w c_ODD with
  | true =>
    obtain ⟨d, hd, rfl⟩ := mem_odd.mp h1
    have e := blk_wid (p := (d, 111)) ⟨hd, .inl rfl⟩
    exact .inl ⟨rfl, d, hd, rfl, by simpa [wid] using e⟩
  | false =>
    cases h2 : memB w.reverse c_ODD with
    | true =>
      obtain ⟨d, hd, e⟩ := mem_odd.mp h2
      have e2 := blk_wid (p := (d, 101)) ⟨hd, .inr rfl⟩
      have hw : w = (oddD d).reverse := by rw [← e, List.reverse_reverse]
      refine .inr (.inl ⟨rfl, rfl, d, hd, e, ?_⟩)
      rw [hw]
      simpa [wid] using e2
    | false => exact .inr (.inr ⟨rfl, rfl, by unfold blk; simp [h1, h2]⟩)
theorem left_loop {b : List Int → List Nat × List Nat → M (Stp (List Nat × List Nat) (Option (List Nat)))}
    (hb : ∀ w f m, f.length ≤ 1000 → m.length ≤ 1000 → b w (f, m) = match blk w with
      | none => .ok (.rt none)
      | some p => .ok (.nx (f ++ [48 + p.1], m ++ [p.2]))) :
    ∀ (ws : List (List Int)) (f m : List Nat), f.length + ws.length ≤ 1000 → m.length + ws.length ≤ 1000 → loop b ws (f, m) = match leftL ws with
      | none => .ok (.rt none)
      | some ps => .ok (.nx (f ++ figs (ps.map (·.1)), m ++ ps.map (·.2)))
  | [], f, m, _, _ => by simp [loop, leftL, figs]
  | w :: ws, f, m, h1, h2 => by
    rw [List.length_cons] at h1 h2
    unfold loop leftL
    rw [hb w f m (by omega) (by omega)]
    cases hw : blk w with
    | none => simp
    | some p =>
      simp only [M.bnd_ok, onS_nx]
      rw [left_loop hb ws _ _ (by simp; omega) (by simp; omega)]
      cases hl : leftL ws with
      | none => rfl
      | some ps => simp [figs]
theorem left_ok (ws : List (List Int)) (hl : ws.length ≤ 500) : p_left_figures ws = .ok (lefO ws) := by
  unfold p_left_figures
  simp only [M.bnd_ok]
  refine bnd_of (left_loop ?_ ws [] [] (by simp; omega) (by simp; omega)) ?_
  · intro w f m hf hm
    simp only
    rcases blk_cases w with ⟨h1, d, hd, rfl, e⟩ | ⟨h1, h2, d, hd, e1, e⟩ | ⟨h1, h2, e⟩
    · simp only [h1, if_true, odd_idx hd, M.bnd_ok, fig_at hd, e]
      rw [catM_ok (by simp; omega), M.bnd_ok, catM_ok (by simp; omega), M.bnd_ok]
    · have h3 := odd_mem hd
      simp only [h1, Bool.false_eq_true, if_false, if_true, e1, h3, odd_idx hd, M.bnd_ok, fig_at hd, e]
      rw [catM_ok (by simp; omega), M.bnd_ok, catM_ok (by simp; omega), M.bnd_ok]
    · simp only [h1, h2, Bool.false_eq_true, if_false, e]
  · unfold lefO
    cases hw : leftL ws with
    | none => simp
    | some ps =>
      simp only [onS_nx, M.bnd_ok, List.nil_append]
      by_cases hm : memB (ps.map (·.2)) c_MANNERS = true
      · obtain ⟨d, hd, e⟩ := mem_man.mp hm
        have : ∀ d : Fin 10, ixF (manD d.val) c_MANNERS = d.val := by decide
        have ei := this ⟨d, hd⟩
        dsimp only at ei
        have hlen : ps.length ≤ 500 := by
          have := (leftL_iff.mp hw).2
          have := congrArg List.length this
          rw [List.length_map] at this
          omega
        simp only [hm, Bool.not_true, Bool.false_eq_true, if_false, if_true]
        rw [e, man_idx hd, M.bnd_ok, fig_at hd, M.bnd_ok, catM_ok (by rw [figs_len]; simp; omega), ei]
        rfl
      · have hm' : memB (ps.map (·.2)) c_MANNERS = false := by simpa using hm
        simp [hm']
def foursF (row : List Int) (b : Nat) : List (List Int) := (List.range 6).map fun i => (row.drop (b + 4 * i)).take 4
theorem fours_ok (row : List Int) {b : Nat} (hb : b ≤ 1000) : p_fours row (b : Int) = .ok (foursF row b) := by
  unfold p_fours
  simp only [M.bnd_ok]
  have e : rngM (b : Int) ((b : Int) + 24) 4 = .ok ((List.range 6).map fun (i : Nat) => ((b + 4 * i : Nat) : Int)) := by
    unfold rngM
    rw [grd_t (by have e : (lim : Int) = 16777216 := rfl; omega)]
    unfold rngL
    rw [show (((b : Int) + 24 - b + 4 - 1) / 4).toNat = 6 by omega]
    congr 1
    first
      | done
      | (refine List.map_congr_left fun k _ => ?_
         omega)
  rw [e, M.bnd_ok]
  rw [mapM_ok (g := fun y => (row.drop y.toNat).take 4) _ fun y hy => by
    obtain ⟨i, _, rfl⟩ := List.mem_map.mp hy
    rw [cutI row (by omega) (by omega)]
    congr 2
    omega]
  unfold foursF
  rw [List.map_map]
  rfl
/-- what a row that is not turned tells -/
def stF (row : List Int) : Option (List Nat) :=
  if row.length = 59 ∧ row.take 3 = [1, 1, 1] ∧ (row.drop 27).take 5 = [1, 1, 1, 1, 1] ∧ row.drop 56 = [1, 1, 1] then
    match lefO (foursF row 3) with
    | none => none
    | some l => if ((foursF row 32).all fun w => memB w c_ODD) = true then (if wgt (l ++ figs ((foursF row 32).map fun w => ixF w c_ODD)) % 10 = 0 then some (l ++ figs ((foursF row 32).map fun w => ixF w c_ODD)) else none) else none
  else none
theorem foursF_len (row : List Int) (b : Nat) : (foursF row b).length = 6 := by unfold foursF; rw [List.length_map, List.length_range]
theorem lefO_fig {ws : List (List Int)} {l : List Nat} (h : lefO ws = some l) : ∃ (ps : List (Nat × Nat)) (d : Nat), (∀ p ∈ ps, PsOk p) ∧ ws = ps.map wid ∧ d < 10 ∧ ps.map (·.2) = manD d ∧ l = figs (d :: ps.map (·.1)) := by
  unfold lefO at h
  cases hw : leftL ws with
  | none => simp only [hw] at h; cases h
  | some ps =>
    simp only [hw] at h
    split at h
    · rename_i hm
      cases h
      obtain ⟨d, hd, e⟩ := mem_man.mp hm
      obtain ⟨h1, h2⟩ := leftL_iff.mp hw
      have : ∀ d : Fin 10, ixF (manD d.val) c_MANNERS = d.val := by decide
      have ei := this ⟨d, hd⟩
      dsimp only at ei
      exact ⟨ps, d, h1, h2, hd, e, by rw [e, ei]; rfl⟩
    · cases h
theorem str_ok (row : List Int) : p_straight_thirteen row = .ok (stF row) := by
  unfold p_straight_thirteen stF
  simp only [M.bnd_ok]
  by_cases h1 : row.length = 59
  · have h1' : ((row.length : Int) = c_WIDTHS) := by rw [h1]; rfl
    rw [show cut row none (some 3) = row.take 3 from cutT row (by decide), show cut row (some 27) (some 32) = (row.drop 27).take 5 from cutI row (by decide) (by decide), show cut row (some 56) none = row.drop 56 from cutF row (by decide)]
    by_cases h2 : row.take 3 = [1, 1, 1]
    · by_cases h3 : (row.drop 27).take 5 = [1, 1, 1, 1, 1]
      · by_cases h4 : row.drop 56 = [1, 1, 1]
        · have g2 : row.take 3 = c_SIDE := h2
          have g3 : (row.drop 27).take 5 = c_MIDDLE := h3
          have g4 : row.drop 56 = c_SIDE := h4
          simp only [h1', g2, g3, g4, decide_true, Bool.not_true, Bool.false_eq_true, if_false]
          rw [if_pos ⟨h1, rfl, rfl, rfl⟩]
          rw [show p_fours row 3 = .ok (foursF row 3) from fours_ok row (b := 3) (by decide), show p_fours row 32 = .ok (foursF row 32) from fours_ok row (b := 32) (by decide)]
          simp only [M.bnd_ok, left_ok (foursF row 3) (by rw [foursF_len]; decide)]
          cases hl : lefO (foursF row 3) with
          | none => simp
          | some l =>
            obtain ⟨ps, d0, a1, a2, a3, a4, a5⟩ := lefO_fig hl
            have hlf : FigOk l := by
              rw [a5]
              refine figs_ok fun d hd => ?_
              rcases List.mem_cons.mp hd with rfl | hd
              · exact a3
              · obtain ⟨p, hp, rfl⟩ := List.mem_map.mp hd
                exact (a1 p hp).1
            have hlen : l.length ≤ 10 := by
              have := congrArg List.length a2
              rw [foursF_len, List.length_map] at this
              rw [a5, figs_len, List.length_cons, List.length_map]; omega
            simp only [Option.isNone_some, Bool.false_eq_true, if_false]
            rw [mapM_ok (g := fun w => memB w c_ODD) _ fun w _ => rfl, M.bnd_ok]
            have e0 : ((foursF row 32).map fun w => memB w c_ODD).all id = (foursF row 32).all fun w => memB w c_ODD := by rw [List.all_map]; rfl
            rw [e0]
            by_cases ha : ((foursF row 32).all fun w => memB w c_ODD) = true
            · have hr : DigOk ((foursF row 32).map fun w => ixF w c_ODD) := fun x hx => by
                obtain ⟨w, hw, rfl⟩ := List.mem_map.mp hx
                obtain ⟨d, hd, rfl⟩ := mem_odd.mp (List.all_eq_true.mp ha w hw)
                have : ∀ d : Fin 10, ixF (oddD d.val) c_ODD = d.val := by decide
                have ei := this ⟨d, hd⟩
                dsimp only at ei
                rw [ei]; exact hd
              have ej : joinM [] ((foursF row 32).map fun w => [48 + ixF w c_ODD]) = .ok (figs ((foursF row 32).map fun w => ixF w c_ODD)) := by
                have el : ∀ xs : List (List Int), ((xs.map fun w => [48 + ixF w c_ODD]).map List.length).sum = xs.length := fun xs => by
                  induction xs with
                  | nil => rfl
                  | cons x xs ih => rw [List.map_cons, List.map_cons, List.sum_cons, ih]; simp; omega
                rw [joinM_ok (by rw [el, foursF_len]; decide)]
                have ef : ∀ xs : List (List Int), (xs.map fun w => [48 + ixF w c_ODD]).flatten = figs (xs.map fun w => ixF w c_ODD) := fun xs => by
                  induction xs with
                  | nil => rfl
                  | cons x xs ih => rw [List.map_cons, List.flatten_cons, ih]; rfl
                rw [ef]
              simp only [ha, Bool.not_true, Bool.false_eq_true, if_false, if_true, getO_some, M.bnd_ok]
              rw [mapM_ok (g := fun w => [48 + ixF w c_ODD]) _ fun w hw => by
                obtain ⟨d, hd, rfl⟩ := mem_odd.mp (List.all_eq_true.mp ha w hw)
                have : ∀ d : Fin 10, ixF (oddD d.val) c_ODD = d.val := by decide
                have ei := this ⟨d, hd⟩
                dsimp only at ei
                rw [odd_idx hd, M.bnd_ok, fig_at hd, ei], M.bnd_ok, ej, M.bnd_ok, catM_ok (by rw [figs_len, List.length_map, foursF_len]; omega), M.bnd_ok, fits_ok (fun c hc => by
                rcases List.mem_append.mp hc with q | q
                · exact hlf c q
                · exact figs_ok hr c q), M.bnd_ok]
              by_cases hz : wgt (l ++ figs ((foursF row 32).map fun w => ixF w c_ODD)) % 10 = 0
              · simp [hz]
              · simp [hz]
            · have ha' : ((foursF row 32).all fun w => memB w c_ODD) = false := by simpa using ha
              simp [ha']
        · have g4 : ¬ row.drop 56 = c_SIDE := h4
          simp [h1', h1, h2, h3, h4, g4, c_SIDE, c_MIDDLE]
      · have g3 : ¬ (row.drop 27).take 5 = c_MIDDLE := h3
        simp [h1', h1, h2, h3, g3, c_SIDE]
    · have g2 : ¬ row.take 3 = c_SIDE := h2
      simp [h1', h1, h2, g2]
  · have h1' : ¬ ((row.length : Int) = c_WIDTHS) := by
      show ¬ (row.length : Int) = 59
      omega
    simp [h1, h1']
end Sh

/-! Mt7: thirteens: what is written is read, and nothing else. -/
namespace Sh
open Dk
theorem chunks_flat {α : Type} (xs : List α) (b w : Nat) : ∀ n, ((List.range n).map fun i => (xs.drop (b + w * i)).take w).flatten = (xs.drop b).take (w * n)
  | 0 => by simp
  | n + 1 => by
    rw [List.range_succ, List.map_append, List.flatten_append, chunks_flat xs b w n, Nat.mul_succ, List.take_add, List.drop_drop]
    simp
theorem chunks_of {α : Type} {w : Nat} : ∀ (ws : List (List α)) (post : List α), (∀ x ∈ ws, x.length = w) → ((List.range ws.length).map fun i => ((ws.flatten ++ post).drop (w * i)).take w) = ws
  | [], _, _ => rfl
  | x :: ws, post, h => by
    have hx := h x (List.mem_cons_self ..)
    have ih := chunks_of ws post fun y hy => h y (List.mem_cons_of_mem _ hy)
    rw [List.length_cons, List.range_succ_eq_map, List.map_cons, List.map_map, List.flatten_cons, List.append_assoc, Nat.mul_zero, List.drop_zero, List.take_append_of_le_length (by omega), List.take_of_length_le (by omega)]
    congr 1
    refine Eq.trans (List.map_congr_left fun i _ => ?_) ih
    show List.take w (List.drop (w * (i + 1)) (x ++ (ws.flatten ++ post))) = _
    have e : List.drop (w * (i + 1)) (x ++ (ws.flatten ++ post)) = List.drop (w * i) (ws.flatten ++ post) := by
      rw [Nat.mul_succ, Nat.add_comm, ← List.drop_drop]
      congr 1
      rw [← hx, List.drop_left]
    rw [e]
theorem fours_of {pre post : List Int} {ws : List (List Int)} (h : ∀ x ∈ ws, x.length = 4) (hl : ws.length = 6) : foursF (pre ++ ws.flatten ++ post) pre.length = ws := by
  have := chunks_of ws post h
  rw [hl] at this
  unfold foursF
  refine Eq.trans (List.map_congr_left fun i _ => ?_) this
  rw [List.append_assoc, ← List.drop_drop, List.drop_left]
theorem row_parts {row : List Int} (h : row.length = 59) : row = row.take 3 ++ (foursF row 3).flatten ++ (row.drop 27).take 5 ++ (foursF row 32).flatten ++ row.drop 56 := by
  unfold foursF
  rw [chunks_flat, chunks_flat]
  have e1 : row.drop 3 = (row.drop 3).take (4 * 6) ++ row.drop 27 := by
    have := (List.take_append_drop 24 (row.drop 3)).symm
    rwa [List.drop_drop] at this
  have e2 : row.drop 27 = (row.drop 27).take 5 ++ row.drop 32 := by
    have := (List.take_append_drop 5 (row.drop 27)).symm
    rwa [List.drop_drop] at this
  have e3 : row.drop 32 = (row.drop 32).take (4 * 6) ++ row.drop 56 := by
    have := (List.take_append_drop 24 (row.drop 32)).symm
    rwa [List.drop_drop] at this
  rw [List.append_assoc, ← e3, List.append_assoc, ← e2, List.append_assoc, ← e1, List.take_append_drop]
theorem flatMap_flat {α : Type} (f : α → List Int) (xs : List α) : xs.flatMap f = (xs.map f).flatten := by rw [List.flatMap_def]
/-- the two sides of a row of thirteen digits -/
theorem thF_parts {ds : List Nat} (h : DigOk ds) (hl : ds.length = 13) : foursF (thF ds) 3 = (((ds.drop 1).take 6).zip (manD (ds.headD 0))).map wid ∧ foursF (thF ds) 32 = (ds.drop 7).map oddD ∧ (thF ds).take 3 = [1, 1, 1] ∧ ((thF ds).drop 27).take 5 = [1, 1, 1, 1, 1] ∧ (thF ds).drop 56 = [1, 1, 1] := by
  obtain ⟨a, b⟩ := left_ps h hl
  have l1 : ((((ds.drop 1).take 6).zip (manD (ds.headD 0))).map wid).flatten.length = 24 := by
    rw [← flatMap_flat, flat_len4 _ (fun p hp => wid_len (a p hp).1), b]
  have l2 : ((ds.drop 7).map oddD).flatten.length = 24 := by
    rw [← flatMap_flat, flat_len4 (f := oddD) _ (fun d hd => odd_len (h d (List.mem_of_mem_drop hd))), List.length_drop, hl]
  unfold thF
  rw [flatMap_flat, flatMap_flat]
  have w1 : ∀ x ∈ (((ds.drop 1).take 6).zip (manD (ds.headD 0))).map wid, x.length = 4 := fun x hx => by
    obtain ⟨p, hp, rfl⟩ := List.mem_map.mp hx
    exact wid_len (a p hp).1
  have w2 : ∀ x ∈ (ds.drop 7).map oddD, x.length = 4 := fun x hx => by
    obtain ⟨d, hd, rfl⟩ := List.mem_map.mp hx
    exact odd_len (h d (List.mem_of_mem_drop hd))
  generalize hW : (((ds.drop 1).take 6).zip (manD (ds.headD 0))).map wid = W at l1 w1 ⊢
  generalize hV : (ds.drop 7).map oddD = V at l2 w2 ⊢
  have hWl : W.length = 6 := by rw [← hW, List.length_map, b]
  have hVl : V.length = 6 := by rw [← hV, List.length_map, List.length_drop, hl]
  refine ⟨?_, ?_, ?_, ?_, ?_⟩
  · have := fours_of (pre := [1, 1, 1]) (post := [1, 1, 1, 1, 1] ++ V.flatten ++ [1, 1, 1]) w1 hWl
    simpa using this
  · have := fours_of (pre := [1, 1, 1] ++ W.flatten ++ [1, 1, 1, 1, 1]) (post := [1, 1, 1]) w2 hVl
    have e : ([1, 1, 1] ++ W.flatten ++ [1, 1, 1, 1, 1] : List Int).length = 32 := by
      simp only [List.length_append, l1]; rfl
    rw [e] at this
    simpa using this
  · simp
  · have e : ([1, 1, 1] ++ W.flatten : List Int).length = 27 := by simp only [List.length_append, l1]; rfl
    have : ([1, 1, 1] ++ W.flatten ++ [1, 1, 1, 1, 1] ++ V.flatten ++ [1, 1, 1] : List Int) = ([1, 1, 1] ++ W.flatten) ++ ([1, 1, 1, 1, 1] ++ (V.flatten ++ [1, 1, 1])) := by simp
    rw [this, List.drop_append_of_le_length (by omega), List.drop_of_length_le (by omega)]
    simp
  · have e : ([1, 1, 1] ++ W.flatten ++ [1, 1, 1, 1, 1] ++ V.flatten : List Int).length = 56 := by simp only [List.length_append, l1, l2]; rfl
    rw [List.drop_append_of_le_length (by omega), List.drop_of_length_le (by omega)]
    rfl
theorem zip_fst_snd : ∀ ps : List (Nat × Nat), (ps.map (·.1)).zip (ps.map (·.2)) = ps
  | [] => rfl
  | p :: ps => by simp [zip_fst_snd ps]
theorem stF_iff {row : List Int} {s : List Nat} : stF row = some s ↔ ∃ ds, ThOk ds ∧ row = thF ds ∧ s = figs ds := by
  constructor
  · intro h
    unfold stF at h
    split at h
    · rename_i hc
      obtain ⟨c1, c2, c3, c4⟩ := hc
      cases hl : lefO (foursF row 3) with
      | none => simp only [hl] at h; cases h
      | some l =>
        simp only [hl] at h
        split at h
        · rename_i ha
          split at h
          · rename_i hz
            cases h
            obtain ⟨ps, d0, a1, a2, a3, a4, a5⟩ := lefO_fig hl
            obtain ⟨es, b1, b2⟩ : ∃ es : List Nat, DigOk es ∧ foursF row 32 = es.map oddD := by
              have : ∀ ws : List (List Int), (ws.all fun w => memB w c_ODD) = true → ∃ es : List Nat, DigOk es ∧ ws = es.map oddD := fun ws => by
                induction ws with
                | nil => exact fun _ => ⟨[], fun x hx => by simp at hx, rfl⟩
                | cons w ws ih =>
                  intro hw
                  rw [List.all_cons, Bool.and_eq_true] at hw
                  obtain ⟨d, hd, rfl⟩ := mem_odd.mp hw.1
                  obtain ⟨es, h1, h2⟩ := ih hw.2
                  exact ⟨d :: es, fun x hx => by rcases List.mem_cons.mp hx with rfl | hx; exact hd; exact h1 x hx, by rw [h2]; rfl⟩
              exact this _ ha
            have hes : (es.map oddD).map (fun w => ixF w c_ODD) = es := by
              rw [List.map_map]
              have : ∀ d : Fin 10, ixF (oddD d.val) c_ODD = d.val := by decide
              refine Eq.trans (List.map_congr_left fun d hd => ?_) (List.map_id _)
              exact this ⟨d, b1 d hd⟩
            have hpl : ps.length = 6 := by
              have := congrArg List.length a2
              rw [foursF_len, List.length_map] at this; omega
            have hel : es.length = 6 := by
              have := congrArg List.length b2
              rw [foursF_len, List.length_map] at this; omega
            rw [b2, hes] at hz ⊢
            have hf : l ++ figs es = figs (d0 :: ps.map (·.1) ++ es) := by rw [a5, ← figs_app]
            refine ⟨d0 :: ps.map (·.1) ++ es, ⟨by simp [hpl, hel], fun x hx => ?_, by rw [← hf]; exact hz⟩, ?_, hf⟩
            · rcases List.mem_append.mp hx with hx | hx
              · rcases List.mem_cons.mp hx with rfl | hx
                · exact a3
                · obtain ⟨p, hp, rfl⟩ := List.mem_map.mp hx
                  exact (a1 p hp).1
              · exact b1 x hx
            · rw [row_parts c1, c2, c3, c4, a2, b2]
              unfold thF
              have e1 : ((d0 :: ps.map (·.1) ++ es).drop 1).take 6 = ps.map (·.1) := by
                show (ps.map (·.1) ++ es).take 6 = _
                rw [List.take_append_of_le_length (by rw [List.length_map]; omega), List.take_of_length_le (by rw [List.length_map]; omega)]
              have e2 : (d0 :: ps.map (·.1) ++ es).drop 7 = es := by
                show (ps.map (·.1) ++ es).drop 6 = _
                rw [List.drop_append_of_le_length (by rw [List.length_map]; omega), List.drop_of_length_le (by rw [List.length_map]; omega)]; rfl
              rw [e1, e2]
              show _ = [1, 1, 1] ++ ((ps.map (·.1)).zip (manD d0)).flatMap wid ++ _ ++ _ ++ _
              rw [← a4, zip_fst_snd, flatMap_flat, flatMap_flat]
          · cases h
        · cases h
    · cases h
  · rintro ⟨ds, h, rfl, rfl⟩
    obtain ⟨p1, p2, p3, p4, p5⟩ := thF_parts h.dig h.len
    obtain ⟨a, b⟩ := left_ps h.dig h.len
    have hlen := thF_len h.dig h.len
    unfold stF
    rw [if_pos ⟨hlen, p3, p4, p5⟩, p1, p2]
    obtain ⟨d, r, rfl⟩ : ∃ d r, ds = d :: r := by
      have := h.len
      cases ds with
      | nil => cases this
      | cons d r => exact ⟨d, r, rfl⟩
    have hrl : r.length = 12 := by have := h.len; simpa using this
    have hd : d < 10 := h.dig d (List.mem_cons_self ..)
    obtain ⟨m1, m2⟩ := man_len hd
    have z1 : (((d :: r).drop 1).take 6).zip (manD ((d :: r).headD 0)) = (r.take 6).zip (manD d) := rfl
    have z2 : (d :: r).drop 7 = r.drop 6 := rfl
    rw [z1] at a b ⊢
    rw [z2]
    have l6 : (r.take 6).length = 6 := by rw [List.length_take]; omega
    have y1 : ((r.take 6).zip (manD d)).map (·.1) = r.take 6 := by
      rw [List.map_fst_zip (by omega)]
    have y2 : ((r.take 6).zip (manD d)).map (·.2) = manD d := by
      rw [List.map_snd_zip (by omega)]
    have hL : leftL (((r.take 6).zip (manD d)).map wid) = some ((r.take 6).zip (manD d)) := leftL_iff.mpr ⟨a, rfl⟩
    have hM : memB (manD d) c_MANNERS = true := mem_man.mpr ⟨d, hd, rfl⟩
    have hI : ixF (manD d) c_MANNERS = d := by
      have : ∀ d : Fin 10, ixF (manD d.val) c_MANNERS = d.val := by decide
      exact this ⟨d, hd⟩
    have hO : lefO (((r.take 6).zip (manD d)).map wid) = some ((48 + d) :: figs (r.take 6)) := by
      unfold lefO
      rw [hL]
      simp only [y1, y2, hM, if_true, hI]
    rw [hO]
    have hA : (((r.drop 6).map oddD).all fun w => memB w c_ODD) = true := List.all_eq_true.mpr fun w hw => by
      obtain ⟨x, hx, rfl⟩ := List.mem_map.mp hw
      exact odd_mem (h.dig x (List.mem_cons_of_mem _ (List.mem_of_mem_drop hx)))
    have hes : ((r.drop 6).map oddD).map (fun w => ixF w c_ODD) = r.drop 6 := by
      rw [List.map_map]
      have : ∀ d : Fin 10, ixF (oddD d.val) c_ODD = d.val := by decide
      refine Eq.trans (List.map_congr_left fun x hx => ?_) (List.map_id _)
      exact this ⟨x, h.dig x (List.mem_cons_of_mem _ (List.mem_of_mem_drop hx))⟩
    have hf : (48 + d) :: figs (r.take 6) ++ figs (r.drop 6) = figs (d :: r) := by
      show (48 + d) :: (figs (r.take 6) ++ figs (r.drop 6)) = (48 + d) :: figs r
      rw [← figs_app, List.take_append_drop]
    simp only [hA, if_true, hes, hf, h.fit]
theorem thF_inj {a b : List Nat} (ha : ThOk a) (hb : ThOk b) (h : thF a = thF b) : a = b := by
  have h1 := stF_iff.mpr ⟨a, ha, rfl, rfl⟩
  have h2 := stF_iff.mpr ⟨b, hb, rfl, rfl⟩
  rw [h, h2] at h1
  exact (figs_inj (Option.some.inj h1)).symm
theorem rev_flat {α : Type} (f : α → List Int) : ∀ xs : List α, (xs.flatMap f).reverse = (xs.reverse.map fun x => (f x).reverse).flatten
  | [] => rfl
  | x :: xs => by
    rw [List.flatMap_cons, List.reverse_append, rev_flat f xs, List.reverse_cons, List.map_append, List.flatten_append]
    simp
/-- turned it is none -/
theorem stF_rev {ds : List Nat} (h : ThOk ds) : stF (thF ds).reverse = none := by
  cases hs : stF (thF ds).reverse with
  | none => rfl
  | some s =>
    exfalso
    obtain ⟨es, he, e, _⟩ := stF_iff.mp hs
    obtain ⟨p1, _⟩ := thF_parts he.dig he.len
    obtain ⟨a, b⟩ := left_ps he.dig he.len
    have hd : es.headD 0 < 10 := by
      have := he.len
      cases es with
      | nil => cases this
      | cons d r => exact he.dig d (List.mem_cons_self ..)
    have hW : ∀ x ∈ ((ds.drop 7).reverse.map fun x => (oddD x).reverse), x.length = 4 := fun x hx => by
      obtain ⟨d, hd, rfl⟩ := List.mem_map.mp hx
      rw [List.length_reverse]
      exact odd_len (h.dig d (List.mem_of_mem_drop (List.mem_reverse.mp hd)))
    have hl : ((ds.drop 7).reverse.map fun x => (oddD x).reverse).length = 6 := by
      rw [List.length_map, List.length_reverse, List.length_drop, h.len]
    have e2 : (thF ds).reverse = [1, 1, 1] ++ ((ds.drop 7).reverse.map fun x => (oddD x).reverse).flatten ++ ([1, 1, 1, 1, 1] ++ ((((ds.drop 1).take 6).zip (manD (ds.headD 0))).flatMap wid).reverse ++ [1, 1, 1]) := by
      unfold thF
      simp only [List.reverse_append, rev_flat oddD]
      simp
    have e3 := fours_of (pre := [1, 1, 1]) (post := [1, 1, 1, 1, 1] ++ ((((ds.drop 1).take 6).zip (manD (ds.headD 0))).flatMap wid).reverse ++ [1, 1, 1]) hW hl
    rw [← e2, e] at e3
    have e4 : foursF (thF es) 3 = _ := e3
    rw [p1] at e4
    -- the first manner is odd
    obtain ⟨m, ms, hm⟩ : ∃ ms d1, (((es.drop 1).take 6).zip (manD (es.headD 0))) = (d1, 111) :: ms := by
      have q : ∀ d : Fin 10, ∃ t, manD d.val = 111 :: t := by
        have : ∀ d : Fin 10, manD d.val = 111 :: (manD d.val).tail := by decide
        exact fun d => ⟨_, this d⟩
      obtain ⟨t, ht⟩ := q ⟨_, hd⟩
      dsimp only at ht
      rw [ht]
      cases hz : (es.drop 1).take 6 with
      | nil =>
        rw [hz] at b
        cases b
      | cons y ys => exact ⟨_, y, rfl⟩
    rw [hm, List.map_cons] at e4
    cases hx : (ds.drop 7).reverse with
    | nil => rw [hx] at e4; cases e4
    | cons z zs =>
      rw [hx, List.map_cons] at e4
      injection e4 with e5 e6
      have hz : z < 10 := h.dig z (List.mem_of_mem_drop (List.mem_reverse.mp (by rw [hx]; exact List.mem_cons_self ..)))
      have hy := (a (ms, 111) (by rw [hm]; exact List.mem_cons_self ..)).1
      have e7 : oddD ms = (oddD z).reverse := e5
      have := rev_mem hz
      rw [← e7, odd_mem hy] at this
      cases this
theorem th_of (row : List Int) : p_thirteen_of row = match stF row with
    | some s => .ok s
    | none => (match stF row.reverse with
      | some s => .ok s
      | none => .exc 2) := by
  unfold p_thirteen_of
  simp only [M.bnd_ok, str_ok, turned_ok]
  cases h1 : stF row with
  | some s =>
    unfold p_thirteen_of_c1 p_thirteen_of_c2
    simp
  | none =>
    simp only [Option.isNone_none, if_true]
    cases h2 : stF row.reverse with
    | some s =>
      unfold p_thirteen_of_c1 p_thirteen_of_c2
      simp
    | none =>
      unfold p_thirteen_of_c1
      simp
theorem th_read {ds : List Nat} (h : ThOk ds) : p_thirteen_of (thF ds) = .ok (figs ds) ∧ p_thirteen_of (thF ds).reverse = .ok (figs ds) := by
  have e := stF_iff.mpr ⟨ds, h, rfl, rfl⟩
  constructor
  · rw [th_of, e]
  · rw [th_of, stF_rev h, List.reverse_reverse, e]
end Sh

/-! Mt8: pairs. -/
namespace Sh
open Dk
theorem rngS_ok {a n c : Int} (h0 : 0 ≤ a) (h1 : a ≤ 16777216) (h2 : 0 ≤ n) (h : n ≤ 16777216) (h3 : 0 < c) (h4 : c < 1000) : rngM a n c = .ok ((List.range ((n - a + c - 1) / c).toNat).map fun (k : Nat) => a + (k : Int) * c) := by
  unfold rngM
  rw [grd_t (by have e : (lim : Int) = 16777216 := rfl; omega)]
  rfl
def fivD (d : Nat) : List Nat := c_FIVES.getD d []
def wO (wide : Int) (sign : Nat) : Int := if sign = 119 then wide else 1
def ilv (wide : Int) (a b : Nat) : List Int := ((fivD a).zip (fivD b)).flatMap fun p => [wO wide p.1, wO wide p.2]
def prB (wide : Int) (ds : List Nat) : List Int := (List.range (ds.length / 2)).flatMap fun k => ilv wide (ds.getD (2 * k) 0) (ds.getD (2 * k + 1) 0)
def prF (wide : Int) (ds : List Nat) : List Int := [1, 1, 1, 1] ++ prB wide ds ++ [wide, 1, 1]
structure PrOk (ds : List Nat) : Prop where
  even : ds.length % 2 = 0
  ge : 2 ≤ ds.length
  le : ds.length ≤ 20
  dig : DigOk ds
theorem five_at {d : Nat} (h : d < 10) : ixM c_FIVES (d : Int) = .ok (fivD d) := by
  have : ∀ d : Fin 10, c_FIVES[d.val]? = some (fivD d.val) := by decide
  exact ixM_at (by omega) (by rw [Int.toNat_natCast]; exact this ⟨d, h⟩)
theorem five_len {d : Nat} (h : d < 10) : (fivD d).length = 5 ∧ ∀ s ∈ fivD d, s = 119 ∨ s = 110 := by
  have : ∀ d : Fin 10, (fivD d.val).length = 5 ∧ ∀ s ∈ fivD d.val, s = 119 ∨ s = 110 := by decide
  exact this ⟨d, h⟩
theorem flat_len2 {α : Type} {f : α → List Int} {w : Nat} : ∀ (xs : List α), (∀ x ∈ xs, (f x).length = w) → (xs.flatMap f).length = w * xs.length
  | [], _ => rfl
  | x :: xs, h => by
    rw [List.flatMap_cons, List.length_append, h x (List.mem_cons_self ..), flat_len2 xs fun y hy => h y (List.mem_cons_of_mem _ hy), List.length_cons, Nat.mul_succ, Nat.add_comm]
theorem ilv_len (wide : Int) {a b : Nat} (ha : a < 10) (hb : b < 10) : (ilv wide a b).length = 10 := by
  unfold ilv
  rw [flat_len2 (w := 2) _ (fun _ _ => rfl), List.length_zip, (five_len ha).1, (five_len hb).1]; rfl
theorem digAt {ds : List Nat} (h : DigOk ds) (k : Nat) : ds.getD k 0 < 10 := by
  rw [List.getD_eq_getElem?_getD]
  cases hk : ds[k]? with
  | none => show 0 < 10; decide
  | some d => exact h d (List.mem_of_getElem? hk)
theorem prB_len (wide : Int) {ds : List Nat} (h : DigOk ds) : (prB wide ds).length = 10 * (ds.length / 2) := by
  unfold prB
  rw [flat_len2 (w := 10) _ (fun k _ => ilv_len wide (digAt h _) (digAt h _)), List.length_range]
theorem prF_len (wide : Int) {ds : List Nat} (h : DigOk ds) : (prF wide ds).length = 7 + 10 * (ds.length / 2) := by
  unfold prF
  rw [List.length_append, List.length_append, prB_len wide h]
  simp; omega
theorem width_ok (s : Nat) (wide : Int) : p_width_of [s] wide = .ok (wO wide s) := by
  unfold p_width_of wO
  simp only [M.bnd_ok]
  by_cases h : s = 119
  · simp [h]
  · simp [h]
/-- a figure at a place -/
theorem fig_get {s : List Nat} (h : FigOk s) {k : Nat} (hk : k < s.length) : (ixSM s (k : Int)).bnd intSM = .ok (((digsOf s).getD k 0 : Nat) : Int) ∧ (digsOf s).getD k 0 < 10 := by
  have e : s[k]? = some s[k] := List.getElem?_eq_getElem hk
  have hf := h _ (List.getElem_mem hk)
  have e2 : (digsOf s).getD k 0 = s[k] - 48 := by
    unfold digsOf
    rw [List.getD_eq_getElem?_getD, List.getElem?_map, e]; rfl
  refine ⟨?_, by omega⟩
  rw [ixSM_at (by omega) (by rw [Int.toNat_natCast]; exact e), M.bnd_ok, dig_one hf, e2]
  congr 1
  omega
theorem pr_row {s : List Nat} (wide : Int) (hl : s.length ≤ 100000) : p_pair_row s wide = if s.length % 2 = 0 ∧ 2 ≤ s.length ∧ s.length ≤ 20 ∧ figB s = true then .ok (prF wide (digsOf s)) else .exc 2 := by
  unfold p_pair_row
  simp only [M.bnd_ok, areF_ok, modM_ok (j := 2) (by decide)]
  by_cases h1 : s.length % 2 = 0
  · have h1' : ¬ ((s.length : Int) % 2 = 1) := by omega
    by_cases h2 : 2 ≤ s.length
    · have h2' : ((2 : Int) ≤ (s.length : Int)) := by omega
      by_cases h3 : s.length ≤ 20
      · have h3' : ((s.length : Int) ≤ c_MOST_FIGURES) := by show (s.length : Int) ≤ 20; omega
        by_cases h4 : figB s = true
        · have hf := figB_iff.mp h4
          refine Eq.trans ?_ (if_pos ⟨h1, h2, h3, h4⟩).symm
          simp only [h1', h2', h3', h4, decide_true, decide_false, if_true, M.bnd_ok, Bool.not_true, Bool.false_eq_true, if_false]
          have hg := digs_ok hf
          have hlg : (digsOf s).length = s.length := by unfold digsOf; rw [List.length_map]
          have er : rngM 0 (s.length : Int) 2 = .ok ((List.range (s.length / 2)).map fun (k : Nat) => ((2 * k : Nat) : Int)) := by
            rw [rngS_ok (by decide) (by decide) (by omega) (by omega) (by decide) (by decide)]
            rw [show (((s.length : Int) - 0 + 2 - 1) / 2).toNat = s.length / 2 by omega]
            congr 1
            refine List.map_congr_left fun k _ => ?_
            omega
          rw [er, M.bnd_ok]
          refine bnd_eq (fold_cat (m := 10) (N := 1000) (g := fun (a : Int) => ilv wide ((digsOf s).getD a.toNat 0) ((digsOf s).getD (a.toNat + 1) 0)) _ _ ?_ ?_ ?_) ?_
          · intro a ha f hf2
            obtain ⟨k, hk, rfl⟩ := List.mem_map.mp ha
            have hk := List.mem_range.mp hk
            obtain ⟨x1, x2⟩ := fig_get hf (k := 2 * k) (by omega)
            obtain ⟨y1, y2⟩ := fig_get hf (k := 2 * k + 1) (by omega)
            have y1' : (ixSM s (((2 * k : Nat) : Int) + 1)).bnd intSM = .ok (((digsOf s).getD (2 * k + 1) 0 : Nat) : Int) := y1
            have x1' : ((ixSM s ((2 * k : Nat) : Int)).bnd fun x25 => intSM x25) = .ok (((digsOf s).getD (2 * k) 0 : Nat) : Int) := x1
            have y1'' : ((ixSM s (((2 * k : Nat) : Int) + 1)).bnd fun x25 => intSM x25) = .ok (((digsOf s).getD (2 * k + 1) 0 : Nat) : Int) := y1
            simp only [M.bnd_ok, x1', y1'', five_at x2, five_at y2, zip_chars, Int.toNat_natCast]
            refine bnd_eq (fold_cat (m := 2) (N := 2000) (g := fun a => [wO wide (a.1.headD 0), wO wide (a.2.headD 0)]) _ _ ?_ (fun _ _ => Nat.le_refl 2) ?_) ?_
            · intro p hp t ht
              obtain ⟨q, hq, rfl⟩ := List.mem_map.mp hp
              simp only [M.bnd_ok, width_ok]
              rw [catM_ok (by simp; omega)]
              rfl
            · rw [List.length_map, List.length_zip, (five_len x2).1]; omega
            · rw [List.flatMap_map]; rfl
          · intro a ha
            exact Nat.le_of_eq (ilv_len wide (digAt hg _) (digAt hg _))
          · rw [List.length_map, List.length_range]
            show 4 + _ ≤ 1000
            omega
          · have e2 : ((List.range (s.length / 2)).map fun (k : Nat) => ((2 * k : Nat) : Int)).flatMap (fun (a : Int) => ilv wide ((digsOf s).getD a.toNat 0) ((digsOf s).getD (a.toNat + 1) 0)) = prB wide (digsOf s) := by
              rw [List.flatMap_map]
              unfold prB
              rw [hlg]
              rfl
            rw [e2]
            refine Eq.trans (catM_ok (by
              rw [List.length_append, prB_len wide hg]
              show 4 + _ + 3 ≤ _
              omega)) ?_
            rfl
        · have h4' : figB s = false := by simpa using h4
          simp [h1', h2', h3', h4']
      · have h3' : ¬ ((s.length : Int) ≤ c_MOST_FIGURES) := by show ¬ (s.length : Int) ≤ 20; omega
        simp [h1', h2', h3', h3]
    · have h2' : ¬ ((2 : Int) ≤ (s.length : Int)) := by omega
      simp [h1', h2', h2]
  · have h1' : ((s.length : Int) % 2 = 1) := by omega
    simp [h1, h1']
theorem pr_of {s : List Nat} (h : FigOk s) (wide : Int) (h1 : s.length % 2 = 0) (h2 : 2 ≤ s.length) (h3 : s.length ≤ 20) : p_pair_row s wide = .ok (prF wide (digsOf s)) ∧ PrOk (digsOf s) := by
  have e : (digsOf s).length = s.length := by unfold digsOf; rw [List.length_map]
  refine ⟨?_, by omega, by omega, by omega, digs_ok h⟩
  rw [pr_row wide (by omega), if_pos ⟨h1, h2, h3, figB_iff.mpr h⟩]
/-! ### read -/
def sgn (wide x : Int) : Nat := if x = wide then 119 else if x = 1 then 110 else 63
def fgO (wide : Int) (ws : List Int) : Option Nat := if memB (ws.map (sgn wide)) c_FIVES = true then some (ixF (ws.map (sgn wide)) c_FIVES) else none
theorem mem_five {m : List Nat} : memB m c_FIVES = true ↔ ∃ d, d < 10 ∧ m = fivD d := by
  rw [memB_iff]
  have e : c_FIVES = (List.range 10).map fivD := by decide
  constructor
  · intro h
    rw [e] at h
    obtain ⟨d, hd, rfl⟩ := List.mem_map.mp h
    exact ⟨d, List.mem_range.mp hd, rfl⟩
  · rintro ⟨d, hd, rfl⟩
    rw [e]
    exact List.mem_map.mpr ⟨d, List.mem_range.mpr hd, rfl⟩
theorem five_ix {d : Nat} (h : d < 10) : ixF (fivD d) c_FIVES = d := by
  have : ∀ d : Fin 10, ixF (fivD d.val) c_FIVES = d.val := by decide
  exact this ⟨d, h⟩
theorem figin_ok (ws : List Int) (wide : Int) (hl : ws.length ≤ 100000) : p_figure_in ws wide = .ok ((fgO wide ws).map fun d => [48 + d]) := by
  unfold p_figure_in
  simp only [M.bnd_ok]
  rw [mapM_ok (g := fun y => [sgn wide y]) _ fun y _ => by
    unfold sgn
    by_cases h : y = wide
    · simp [h]
    · by_cases h2 : y = 1
      · subst h2; simp [h]
      · simp [h, h2]]
  rw [M.bnd_ok]
  have el : ∀ xs : List Int, ((xs.map fun w => [sgn wide w]).map List.length).sum = xs.length := fun xs => by
    induction xs with
    | nil => rfl
    | cons x xs ih => rw [List.map_cons, List.map_cons, List.sum_cons, ih]; simp; omega
  have ef : ∀ xs : List Int, (xs.map fun w => [sgn wide w]).flatten = xs.map (sgn wide) := fun xs => by
    induction xs with
    | nil => rfl
    | cons x xs ih => rw [List.map_cons, List.flatten_cons, ih]; rfl
  rw [joinM_ok (by rw [el]; omega), M.bnd_ok, ef]
  unfold fgO
  by_cases hm : memB (ws.map (sgn wide)) c_FIVES = true
  · obtain ⟨d, hd, e⟩ := mem_five.mp hm
    have q : idxTM c_FIVES (fivD d) = .ok (d : Int) := by
      unfold idxTM
      rw [grd_t (mem_five.mpr ⟨d, hd, rfl⟩), five_ix hd]
    rw [e] at hm ⊢
    simp only [hm, Bool.not_true, Bool.false_eq_true, if_false, if_true, q, M.bnd_ok, fig_at hd, five_ix hd, Option.map_some]
  · have hm' : memB (ws.map (sgn wide)) c_FIVES = false := by simpa using hm
    simp [hm']
theorem fgO_lt {wide : Int} {ws : List Int} {d : Nat} (h : fgO wide ws = some d) : d < 10 := by
  unfold fgO at h
  split at h
  · rename_i hm
    obtain ⟨e, he, q⟩ := mem_five.mp hm
    rw [q, five_ix he] at h
    cases h; exact he
  · cases h
theorem fgO_five {wide : Int} (hw : wide ≠ 1) {d : Nat} (hd : d < 10) : fgO wide ((fivD d).map (wO wide)) = some d := by
  have e : ((fivD d).map (wO wide)).map (sgn wide) = fivD d := by
    rw [List.map_map]
    refine Eq.trans (List.map_congr_left fun s hs => ?_) (List.map_id _)
    show sgn wide (wO wide s) = s
    unfold sgn wO
    rcases (five_len hd).2 s hs with rfl | rfl
    · simp
    · have : ¬ 1 = wide := fun h => hw h.symm
      simp [this]
  unfold fgO
  rw [e, five_ix hd, if_pos (mem_five.mpr ⟨d, hd, rfl⟩)]
theorem half_ilv (f : Nat → Int) : ∀ (a b : List Nat), a.length = b.length → half ((a.zip b).flatMap fun p => [f p.1, f p.2]) = a.map f ∧ half ((a.zip b).flatMap fun p => [f p.1, f p.2]).tail = b.map f
  | [], [], _ => ⟨rfl, rfl⟩
  | x :: a, y :: b, h => by
    obtain ⟨h1, h2⟩ := half_ilv f a b (by simpa using h)
    have e : ((x :: a).zip (y :: b)).flatMap (fun p => [f p.1, f p.2]) = f x :: f y :: ((a.zip b).flatMap fun p => [f p.1, f p.2]) := rfl
    rw [e]
    constructor
    · rw [half_cons, List.tail_cons, h1]; rfl
    · rw [List.tail_cons, half_cons, h2]; rfl
  | [], y :: b, h => by cases h
  | x :: a, [], h => by cases h
/-- the figures of chunks of ten -/
def readL (wide : Int) : List (List Int) → Option (List Nat)
  | [] => some []
  | c :: r => match fgO wide (half c), fgO wide (half c.tail) with
    | some a, some b => (readL wide r).map fun t => a :: b :: t
    | _, _ => none
def tens (row : List Int) : List (List Int) := (List.range ((row.length - 7) / 10)).map fun k => (row.drop (4 + 10 * k)).take 10
def stP (wide : Int) (row : List Int) : Option (List Nat) :=
  if row.take 4 = [1, 1, 1, 1] ∧ cut row (some (-3)) none = [wide, 1, 1] ∧ row.length % 10 = 7 ∧ 17 ≤ row.length then
    match readL wide (tens row) with
    | none => none
    | some ds => if 20 < ds.length then none else some (figs ds)
  else none
theorem readL_len {wide : Int} : ∀ {cs : List (List Int)} {ds : List Nat}, readL wide cs = some ds → ds.length = 2 * cs.length ∧ DigOk ds
  | [], ds, h => by cases h; exact ⟨rfl, fun d hd => by cases hd⟩
  | c :: cs, ds, h => by
    unfold readL at h
    split at h
    · rename_i a b ha hb
      obtain ⟨t, ht, rfl⟩ := Option.map_eq_some_iff.mp h
      obtain ⟨h1, h2⟩ := readL_len ht
      refine ⟨by simp [h1]; omega, fun d hd => ?_⟩
      rcases List.mem_cons.mp hd with rfl | hd
      · exact fgO_lt ha
      · rcases List.mem_cons.mp hd with rfl | hd
        · exact fgO_lt hb
        · exact h2 d hd
    · cases h
theorem read_loop {wide : Int} {b : Int → List Nat → M (Stp (List Nat) (Option (List Nat)))} {g : Int → List Int} :
    ∀ (ks : List Int) (f : List Nat), (∀ k ∈ ks, ∀ f : List Nat, f.length ≤ 1000000 → b k f = match fgO wide (half (g k)), fgO wide (half (g k).tail) with
      | some a, some b => .ok (.nx (f ++ [48 + a] ++ [48 + b]))
      | _, _ => .ok (.rt none)) → f.length + 2 * ks.length ≤ 1000000 → loop b ks f = match readL wide (ks.map g) with
      | none => .ok (.rt none)
      | some ds => .ok (.nx (f ++ figs ds))
  | [], f, _, _ => by simp [loop, readL, figs]
  | k :: ks, f, hb, hl => by
    rw [List.length_cons] at hl
    unfold loop
    rw [hb k (List.mem_cons_self ..) f (by omega), List.map_cons]
    unfold readL
    cases h1 : fgO wide (half (g k)) with
    | none => simp
    | some a =>
      cases h2 : fgO wide (half (g k).tail) with
      | none => simp
      | some c =>
        simp only [M.bnd_ok, onS_nx]
        rw [read_loop ks _ (fun k hk => hb k (List.mem_cons_of_mem _ hk)) (by simp; omega)]
        cases hr : readL wide (ks.map g) with
        | none => rfl
        | some ds => simp [figs]
theorem stp_ok (row : List Int) (wide : Int) (hl : row.length ≤ 100000) : p_straight_pair row wide = .ok (stP wide row) := by
  unfold p_straight_pair stP
  simp only [M.bnd_ok, modM_ok (j := 10) (by decide)]
  rw [show cut row none (some 4) = row.take 4 from cutT row (by decide)]
  by_cases h1 : row.take 4 = [1, 1, 1, 1]
  · have g1 : row.take 4 = c_FRONT := h1
    by_cases h2 : cut row (some (-3)) none = [wide, 1, 1]
    · by_cases h3 : row.length % 10 = 7
      · have h3' : (row.length : Int) % 10 = 7 := by omega
        by_cases h4 : 17 ≤ row.length
        · have h4' : ¬ ((row.length : Int) < 17) := by omega
          rw [if_pos (c := row.take 4 = [1, 1, 1, 1] ∧ cut row (some (-3)) none = [wide, 1, 1] ∧ row.length % 10 = 7 ∧ 17 ≤ row.length) ⟨h1, h2, h3, h4⟩]
          simp only [g1, h2, h3', h4', decide_true, decide_false, Bool.not_true, Bool.false_eq_true, if_false]
          have er : rngM 4 ((row.length : Int) - 3) 10 = .ok ((List.range ((row.length - 7) / 10)).map fun (k : Nat) => ((4 + 10 * k : Nat) : Int)) := by
            rw [rngS_ok (by decide) (by decide) (by omega) (by omega) (by decide) (by decide)]
            rw [show (((row.length : Int) - 3 - 4 + 10 - 1) / 10).toNat = (row.length - 7) / 10 by omega]
            congr 1
            refine List.map_congr_left fun k _ => ?_
            omega
          rw [er, M.bnd_ok]
          have eg : ((List.range ((row.length - 7) / 10)).map fun (k : Nat) => ((4 + 10 * k : Nat) : Int)).map (fun (a : Int) => (row.drop a.toNat).take 10) = tens row := by
            rw [List.map_map]; rfl
          refine bnd_of (read_loop (wide := wide) (g := fun (a : Int) => (row.drop a.toNat).take 10) _ [] ?_ ?_) ?_
          · intro a ha f hf
            obtain ⟨k, hk, rfl⟩ := List.mem_map.mp ha
            have hk := List.mem_range.mp hk
            have c0 : cut row (some (((4 + 10 * k : Nat) : Int) + 0)) (some (((4 + 10 * k : Nat) : Int) + 10)) = (row.drop (4 + 10 * k)).take 10 := by
              rw [cutI row (by omega) (by omega)]
              congr 2 <;> omega
            have c1 : cut row (some (((4 + 10 * k : Nat) : Int) + 1)) (some (((4 + 10 * k : Nat) : Int) + 10)) = ((row.drop (4 + 10 * k)).take 10).tail := by
              rw [cutI row (by omega) (by omega)]
              rw [← List.drop_one, List.drop_take, List.drop_drop]
              rw [show (((4 + 10 * k : Nat) : Int) + 1).toNat = 4 + 10 * k + 1 by omega, show (((4 + 10 * k : Nat) : Int) + 10).toNat - (4 + 10 * k + 1) = 10 - 1 by omega]
            have hc : ((row.drop (4 + 10 * k)).take 10).length ≤ 10 := by rw [List.length_take]; omega
            have hh : (half ((row.drop (4 + 10 * k)).take 10)).length ≤ 100000 := by rw [(half_len _).1]; omega
            have hh2 : (half ((row.drop (4 + 10 * k)).take 10).tail).length ≤ 100000 := by rw [(half_len _).2]; omega
            simp only [mapM, M.bnd_ok, c0, c1, figin_ok _ wide hh, figin_ok _ wide hh2, Int.toNat_natCast]
            cases e1 : fgO wide (half ((row.drop (4 + 10 * k)).take 10)) with
            | none => simp [memB]
            | some x =>
              cases e2 : fgO wide (half ((row.drop (4 + 10 * k)).take 10).tail) with
              | none => simp [memB]
              | some y =>
                have i0 : ∀ u v : Option (List Nat), ixM [u, v] 0 = .ok u := fun u v => ixM_at (by decide) rfl
                have i1 : ∀ u v : Option (List Nat), ixM [u, v] 1 = .ok v := fun u v => ixM_at (by decide) rfl
                simp only [Option.map_some, memB, i0, i1, M.bnd_ok, getO_some]
                rw [catM_ok (by simp; omega), M.bnd_ok, catM_ok (by simp; omega), M.bnd_ok]
                simp
          · rw [List.length_map, List.length_range]
            show 0 + _ ≤ _
            omega
          · rw [eg]
            cases hr : readL wide (tens row) with
            | none => simp
            | some ds =>
              simp only [onS_nx, M.bnd_ok, List.nil_append, figs_len]
              by_cases h5 : 20 < ds.length
              · have h5' : c_MOST_FIGURES < (ds.length : Int) := by show (20 : Int) < _; omega
                simp [h5, h5']
              · have h5' : ¬ c_MOST_FIGURES < (ds.length : Int) := by show ¬ (20 : Int) < _; omega
                simp [h5, h5']
        · have h4' : ((row.length : Int) < 17) := by omega
          simp [g1, h1, h2, h3, h3', h4, h4']
      · have h3' : ¬ ((row.length : Int) % 10 = 7) := by omega
        simp [g1, h1, h2, h3, h3']
    · simp [g1, h1, h2]
  · have g1 : ¬ row.take 4 = c_FRONT := h1
    simp [g1, h1]
end Sh

/-! Mt9: pairs: what is written is read, and nothing else. -/
namespace Sh
open Dk
theorem pairs_back : ∀ (n : Nat) (ds : List Nat), ds.length = 2 * n → ((List.range n).flatMap fun k => [ds.getD (2 * k) 0, ds.getD (2 * k + 1) 0]) = ds
  | 0, ds, h => by
    cases ds with
    | nil => rfl
    | cons d ds => simp at h
  | n + 1, ds, h => by
    cases ds with
    | nil => simp at h
    | cons a ds =>
      cases ds with
      | nil => simp at h; omega
      | cons b r =>
        have ih := pairs_back n r (by simp at h; omega)
        rw [List.range_succ_eq_map, List.flatMap_cons, List.flatMap_map]
        have e : (fun k => [(a :: b :: r).getD (2 * Nat.succ k) 0, (a :: b :: r).getD (2 * Nat.succ k + 1) 0]) = fun k => [r.getD (2 * k) 0, r.getD (2 * k + 1) 0] := by
          funext k
          rfl
        rw [e, ih]
        rfl
theorem half_of {wide : Int} {a b : Nat} (ha : a < 10) (hb : b < 10) : half (ilv wide a b) = (fivD a).map (wO wide) ∧ half (ilv wide a b).tail = (fivD b).map (wO wide) := half_ilv (wO wide) (fivD a) (fivD b) (by rw [(five_len ha).1, (five_len hb).1])
theorem readL_w {wide : Int} (hw : wide ≠ 1) {ds : List Nat} (h : DigOk ds) : ∀ (ks : List Nat), readL wide (ks.map fun k => ilv wide (ds.getD (2 * k) 0) (ds.getD (2 * k + 1) 0)) = some (ks.flatMap fun k => [ds.getD (2 * k) 0, ds.getD (2 * k + 1) 0])
  | [] => rfl
  | k :: ks => by
    have a := digAt h (2 * k)
    have b := digAt h (2 * k + 1)
    obtain ⟨p, q⟩ := half_of (wide := wide) a b
    rw [List.map_cons]
    unfold readL
    rw [p, q, fgO_five hw a, fgO_five hw b, readL_w hw h ks]
    rfl
theorem tens_w {wide : Int} {ds : List Nat} (h : DigOk ds) : tens (prF wide ds) = (List.range (ds.length / 2)).map fun k => ilv wide (ds.getD (2 * k) 0) (ds.getD (2 * k + 1) 0) := by
  have := chunks_of (w := 10) ((List.range (ds.length / 2)).map fun k => ilv wide (ds.getD (2 * k) 0) (ds.getD (2 * k + 1) 0)) [wide, 1, 1] (fun x hx => by
    obtain ⟨k, _, rfl⟩ := List.mem_map.mp hx
    exact ilv_len wide (digAt h _) (digAt h _))
  rw [List.length_map, List.length_range] at this
  refine Eq.trans ?_ this
  unfold tens
  rw [prF_len wide h, show (7 + 10 * (ds.length / 2) - 7) / 10 = ds.length / 2 by omega]
  refine List.map_congr_left fun k _ => ?_
  rw [← List.drop_drop]
  congr 2
theorem prF_end (wide : Int) {ds : List Nat} (h : DigOk ds) : cut (prF wide ds) (some (-3)) none = [wide, 1, 1] := by
  rw [show ((-3 : Int)) = -((3 : Nat) : Int) from rfl, cutE _ (by rw [prF_len wide h]; omega) (by decide)]
  unfold prF
  exact List.drop_left' (by simp)
theorem stP_w {wide : Int} (hw : wide ≠ 1) {ds : List Nat} (h : PrOk ds) : stP wide (prF wide ds) = some (figs ds) := by
  have hl := prF_len wide h.dig
  have h1 := h.even
  have h2 := h.ge
  have h3 := h.le
  unfold stP
  rw [if_pos ⟨rfl, prF_end wide h.dig, by omega, by omega⟩, tens_w h.dig, readL_w hw h.dig, pairs_back _ _ (by omega)]
  simp only
  rw [if_neg (by omega)]
theorem stP_o {w wide : Int} (hw : w ≠ wide) {ds : List Nat} (h : DigOk ds) : stP w (prF wide ds) = none := by
  unfold stP
  rw [if_neg]
  rintro ⟨_, e, _⟩
  rw [prF_end wide h] at e
  injection e with e _
  exact hw e.symm
theorem stP_r {w wide : Int} (hw : wide ≠ 1) {ds : List Nat} : stP w (prF wide ds).reverse = none := by
  unfold stP
  rw [if_neg]
  rintro ⟨e, _⟩
  unfold prF at e
  rw [List.reverse_append] at e
  have e2 : (1 : Int) :: 1 :: wide :: (((([1, 1, 1, 1] ++ prB wide ds : List Int)).reverse).take 1) = [1, 1, 1, 1] := e
  injection e2 with _ e2
  injection e2 with _ e2
  injection e2 with e2 _
  exact hw e2
theorem fgO_inv {wide : Int} {ws : List Int} {d : Nat} (h : fgO wide ws = some d) : d < 10 ∧ ws = (fivD d).map (wO wide) := by
  have hd := fgO_lt h
  refine ⟨hd, ?_⟩
  unfold fgO at h
  split at h
  · rename_i hm
    obtain ⟨e, he, q⟩ := mem_five.mp hm
    rw [q, five_ix he] at h
    cases h
    rw [← q, List.map_map]
    refine Eq.trans (List.map_id _).symm (List.map_congr_left fun x hx => ?_)
    have hs : sgn wide x ∈ fivD d := by rw [← q]; exact List.mem_map.mpr ⟨x, hx, rfl⟩
    have h2 := (five_len hd).2 _ hs
    show x = wO wide (sgn wide x)
    unfold sgn at h2 ⊢
    unfold wO
    by_cases hx : x = wide
    · simp [hx]
    · by_cases h1 : x = 1
      · simp [hx, h1]
      · simp [hx, h1] at h2
  · cases h
theorem unhalf {c d : List Int} (h1 : half c = half d) (h2 : half c.tail = half d.tail) : c = d := by
  refine List.ext_getElem? fun i => ?_
  rcases Nat.mod_two_eq_zero_or_one i with q | q
  · have e : i = 2 * (i / 2) := by omega
    rw [e, ← (half_get c _).1, ← (half_get d _).1, h1]
  · have e : i = 2 * (i / 2) + 1 := by omega
    rw [e, ← (half_get c _).2, ← (half_get d _).2, h2]
theorem readL_inv {wide : Int} : ∀ {cs : List (List Int)} {ds : List Nat}, readL wide cs = some ds → cs = (List.range cs.length).map fun k => ilv wide (ds.getD (2 * k) 0) (ds.getD (2 * k + 1) 0)
  | [], ds, h => rfl
  | c :: cs, ds, h => by
    unfold readL at h
    split at h
    · rename_i a b ha hb
      obtain ⟨t, ht, rfl⟩ := Option.map_eq_some_iff.mp h
      obtain ⟨a1, a2⟩ := fgO_inv ha
      obtain ⟨b1, b2⟩ := fgO_inv hb
      have ih := readL_inv ht
      rw [List.length_cons, List.range_succ_eq_map, List.map_cons, List.map_map]
      congr 1
      obtain ⟨p, q⟩ := half_of (wide := wide) a1 b1
      exact unhalf (by rw [a2]; exact p.symm) (by rw [b2]; exact q.symm)
    · cases h
theorem stP_iff {wide : Int} (hw : wide ≠ 1) {row : List Int} {s : List Nat} : stP wide row = some s ↔ ∃ ds, PrOk ds ∧ row = prF wide ds ∧ s = figs ds := by
  constructor
  · intro h
    unfold stP at h
    split at h
    · rename_i hc
      obtain ⟨c1, c2, c3, c4⟩ := hc
      cases hr : readL wide (tens row) with
      | none => rw [hr] at h; cases h
      | some ds =>
        rw [hr] at h
        simp only at h
        split at h
        · cases h
        · rename_i h20
          cases h
          obtain ⟨l1, l2⟩ := readL_len hr
          have lt : (tens row).length = (row.length - 7) / 10 := by unfold tens; rw [List.length_map, List.length_range]
          have hi := readL_inv hr
          refine ⟨ds, ⟨by omega, by omega, by omega, l2⟩, ?_, rfl⟩
          have hn : ds.length / 2 = (row.length - 7) / 10 := by omega
          have hf : (tens row).flatten = (row.drop 4).take (10 * ((row.length - 7) / 10)) := chunks_flat row 4 10 _
          rw [lt, ← hn] at hi
          rw [hi] at hf
          unfold prF prB
          rw [List.flatMap_def, hf, ← c1, ← c2]
          rw [show ((-3 : Int)) = -((3 : Nat) : Int) from rfl, cutE _ (by omega) (by decide)]
          rw [show 10 * ((row.length - 7) / 10) = row.length - 7 by omega]
          have e2 : row.drop (row.length - 3) = (row.drop 4).drop (row.length - 7) := by
            rw [List.drop_drop]; congr 1; omega
          rw [e2, List.append_assoc, List.take_append_drop, List.take_append_drop]
    · cases h
  · rintro ⟨ds, h, rfl, rfl⟩
    exact stP_w hw h
/-- what a row tells, from either end, of either wide -/
def prO (row : List Int) : Option (List Nat) := match stP 2 row with
  | some s => some s
  | none => match stP 3 row with
    | some s => some s
    | none => match stP 2 row.reverse with
      | some s => some s
      | none => stP 3 row.reverse
theorem pr_rd (row : List Int) (hl : row.length ≤ 100000) : p_pair_of row = match prO row with
    | some s => .ok s
    | none => .exc 2 := by
  unfold p_pair_of prO
  have hr : row.reverse.length ≤ 100000 := by rw [List.length_reverse]; exact hl
  simp only [M.bnd_ok, turned_ok, loop, c_WIDES, stp_ok row _ hl, stp_ok row.reverse _ hr]
  cases h1 : stP 2 row with
  | some s => simp
  | none =>
    cases h2 : stP 3 row with
    | some s => simp
    | none =>
      cases h3 : stP 2 row.reverse with
      | some s => simp
      | none =>
        cases h4 : stP 3 row.reverse with
        | some s => simp
        | none => simp
theorem pr_read {wide : Int} (hw : wide = 2 ∨ wide = 3) {ds : List Nat} (h : PrOk ds) : p_pair_of (prF wide ds) = .ok (figs ds) ∧ p_pair_of (prF wide ds).reverse = .ok (figs ds) := by
  have hl := prF_len wide h.dig
  have h3 := h.le
  have hl2 : (prF wide ds).length ≤ 100000 := by omega
  have hl3 : (prF wide ds).reverse.length ≤ 100000 := by rw [List.length_reverse]; omega
  rw [pr_rd _ hl2, pr_rd _ hl3]
  unfold prO
  rw [List.reverse_reverse]
  rcases hw with rfl | rfl
  · rw [stP_w (by decide) h, stP_r (w := 2) (by decide), stP_r (w := 3) (by decide)]
    exact ⟨rfl, rfl⟩
  · rw [stP_o (w := 2) (wide := 3) (by decide) h.dig, stP_w (wide := 3) (by decide) h, stP_r (w := 2) (by decide), stP_r (w := 3) (by decide)]
    exact ⟨rfl, rfl⟩
end Sh

/-! MtA: rows and pictures by the laws' own plain walks. -/
namespace Sh
open Dk
theorem hspots_ok {row : List Int} (h0 : ∀ x ∈ row, 0 ≤ x ∧ x ≤ 1000) (hl : row.length ≤ 1000) : h_spots row = .ok (spF row) := by
  unfold h_spots
  simp only [M.bnd_ok]
  refine bnd_eq (fold_cat (m := 1000) (N := 10000000) (g := fun y : Int × Int => List.replicate y.2.toNat (if y.1 % 2 = 0 then 35 else 46)) _ _ ?_ ?_ ?_) ?_
  · intro y hy s hs
    obtain ⟨h1, h2, h3, h4⟩ := mem_enumF hy
    have hy2 := h0 _ h3
    have e : ixM [([35] : List Nat), [46]] (y.1 % 2) = .ok [if y.1 % 2 = 0 then 35 else 46] := by
      rcases (by omega : y.1 % 2 = 0 ∨ y.1 % 2 = 1) with q | q
      · rw [q]; rfl
      · rw [q]; rfl
    simp only [modM_ok (j := 2) (by decide), M.bnd_ok, e, mulSM_one hy2.1 (show y.2 ≤ 16777216 by omega)]
    rw [catM_ok (by rw [List.length_replicate]; omega), M.bnd_ok]
  · intro y hy
    have hy2 := h0 _ (mem_enumF hy).2.2.1
    rw [List.length_replicate]; omega
  · have : (enumF 0 row).length = row.length := by
      have := congrArg List.length (enum_snd row 0)
      rwa [List.length_map] at this
    rw [this]
    show 0 + _ ≤ _
    omega
  · rw [List.flatMap_def, enum_spA row 0]
    rfl
theorem hruns_fold {b : List Nat → List Int × List Nat → M (List Int × List Nat)} (hb1 : ∀ (c : Nat) (init : List Int) (n : Int), b [c] (init ++ [n], [c]) = .ok (init ++ [n + 1], [c]))
    (hb2 : ∀ (c d : Nat) (s : List Int), d ≠ c → s.length < 16777216 → b [d] (s, [c]) = .ok (s ++ [1], [d])) :
    ∀ (rest : List Nat) (c : Nat) (init : List Int) (n : Int), init.length + 1 + rest.length ≤ 16777216 → ∃ l, fold b (chars rest) (init ++ [n], [c]) = .ok (init ++ runA c n rest, l)
  | [], c, init, n, _ => ⟨_, rfl⟩
  | d :: rest, c, init, n, hl => by
    rw [List.length_cons] at hl
    by_cases e : d = c
    · subst e
      obtain ⟨l, q⟩ := hruns_fold hb1 hb2 rest d init (n + 1) (by omega)
      refine ⟨l, ?_⟩
      show (b [d] (init ++ [n], [d])).bnd (fun s => fold b (chars rest) s) = _
      rw [hb1, M.bnd_ok, q]
      congr 3
      show runA d (n + 1) rest = if d = d then _ else _
      rw [if_pos rfl]
    · obtain ⟨l, q⟩ := hruns_fold hb1 hb2 rest d (init ++ [n]) 1 (by rw [List.length_append, List.length_singleton]; omega)
      refine ⟨l, ?_⟩
      show (b [d] (init ++ [n], [c])).bnd (fun s => fold b (chars rest) s) = _
      rw [hb2 _ _ _ e (by rw [List.length_append, List.length_singleton]; omega), M.bnd_ok, q, List.append_assoc]
      congr 3
      show n :: runA d 1 rest = if d = c then _ else _
      rw [if_neg e]
theorem hruns_ok {s : List Nat} (h : s.length ≤ 16777216) : h_runs s = .ok (runF s) := by
  unfold h_runs
  simp only [M.bnd_ok]
  cases s with
  | nil => rfl
  | cons c rest =>
    rw [show chars (c :: rest) = [c] :: chars rest from rfl]
    unfold fold
    simp only [M.bnd_ok, show decide (([c] : List Nat) = []) = false from rfl, Bool.false_eq_true, if_false, List.length_nil]
    rw [grd_t (by decide), M.bnd_ok, List.nil_append]
    have := hruns_fold (b := fun (a6 : (List Nat)) (s4 : ((List Int) × (List Nat))) => if decide (a6 = s4.2) = true then ((ixM s4.1 (-1)).bnd fun x12 => M.ok (x12 + 1)).bnd fun x16 => (setXM s4.1 (-1) x16).bnd fun v => M.ok (v, a6) else M.grd (s4.1.length < lim) (M.ok (s4.1 ++ [1], a6))) (fun c init n => by
      simp only [decide_true, if_true, ixM_last, M.bnd_ok, setXM_last]) (fun c d s hne hl => by
      have e2 : decide ([d] = [c]) = false := decide_eq_false (fun q => hne (by cases q; rfl))
      simp only [e2, Bool.false_eq_true, if_false]
      exact grd_t hl) rest c [] 1 (by
      rw [List.length_cons] at h
      show 0 + 1 + _ ≤ _
      omega)
    obtain ⟨l, q⟩ := this
    rw [List.nil_append] at q
    exact bnd_eq (Eq.trans rfl q) rfl
theorem half_enum {α : Type} : ∀ (row : List α) (k : Nat), ((enumF k row).filter fun y => decide (y.1 % 2 = 0)).map (·.2) = (if k % 2 = 0 then half row else half row.tail) ∧ ((enumF k row).filter fun y => decide (y.1 % 2 = 1)).map (·.2) = (if k % 2 = 0 then half row.tail else half row)
  | [], k => by
    constructor <;> (split <;> rfl)
  | x :: r, k => by
    obtain ⟨h1, h2⟩ := half_enum r (k + 1)
    have e : enumF k (x :: r) = (((k : Nat) : Int), x) :: enumF (k + 1) r := rfl
    rw [e, List.filter_cons, List.filter_cons]
    rcases Nat.mod_two_eq_zero_or_one k with h | h
    · have q1 : ((k : Nat) : Int) % 2 = 0 := by omega
      have q2 : ¬ ((k : Nat) : Int) % 2 = 1 := by omega
      have q3 : ¬ (k + 1) % 2 = 0 := by omega
      rw [if_neg q3] at h1 h2
      constructor
      · rw [if_pos (decide_eq_true q1), List.map_cons, h1, if_pos h, half_cons]
      · rw [if_neg (by simpa using q2), h2, if_pos h]; rfl
    · have q1 : ¬ ((k : Nat) : Int) % 2 = 0 := by omega
      have q2 : ((k : Nat) : Int) % 2 = 1 := by omega
      have q3 : (k + 1) % 2 = 0 := by omega
      have q4 : ¬ k % 2 = 0 := by omega
      rw [if_pos q3] at h1 h2
      constructor
      · rw [if_neg (by simpa using q1), h1, if_neg q4]; rfl
      · rw [if_pos (decide_eq_true q2), List.map_cons, h2, if_neg q4, half_cons]
theorem evens_ok (row : List Int) (j : Int) (h : j = 0 ∨ j = 1) : cmpM (fun y => (modM y.1 2).bnd fun x => M.ok (decide (x = j))) (fun y => M.ok y.2) (enumF 0 row) = .ok (if j = 0 then half row else half row.tail) := by
  refine Eq.trans (cmpM_ok (p := fun y : Int × Int => decide (y.1 % 2 = j)) (g := fun y : Int × Int => y.2) _ fun y _ => ⟨by rw [modM_ok (by decide), M.bnd_ok], fun _ => rfl⟩) ?_
  obtain ⟨h1, h2⟩ := half_enum row 0
  rcases h with rfl | rfl
  · rw [h1]; rfl
  · rw [h2]; rfl
theorem runA_ne : ∀ (c : Nat) (n : Int) (r : List Nat), runA c n r ≠ []
  | c, n, [] => by unfold runA; simp
  | c, n, d :: r => by
    unfold runA
    split
    · exact runA_ne c (n + 1) r
    · simp
theorem runF_ne {s : List Nat} (h : s ≠ []) : runF s ≠ [] := by
  cases s with
  | nil => exact absurd rfl h
  | cons c r => exact runA_ne c 1 r
theorem ok_row (n : Nat) (b : List Int) : okN (n + 1) (eT eI b) = true := by
  show (b.map eI).all (okN n) = true
  rw [List.all_map, List.all_eq_true]
  intro x _
  cases n <;> rfl
theorem ok_int (n : Nat) (i : Int) : okN n (eI i) = true := by cases n <;> rfl
theorem ok_str (n : Nat) (s : List Nat) : okN n (eS s) = true := by cases n <;> rfl
theorem ok_strD (n : Nat) (s : List Nat) : okN n (.str s) = true := by cases n <;> rfl
theorem ok_rows (n : Nat) (b : List (List Int)) : okN (n + 2) (eT (eT eI) b) = true := by
  show (b.map (eT eI)).all (okN (n + 1)) = true
  rw [List.all_map, List.all_eq_true]
  intro x _
  exact ok_row n x
theorem lstrip_len (z : List Nat) : ∀ s : List Nat, (lstripS z s).length ≤ s.length
  | [] => Nat.le_refl _
  | c :: r => by
    show (if z.contains c then lstripS z r else c :: r).length ≤ _
    split
    · have := lstrip_len z r
      rw [List.length_cons]; omega
    · exact Nat.le_refl _
theorem strip_len (z s : List Nat) : (rstripS z (lstripS z s)).length ≤ s.length := by
  unfold rstripS
  rw [List.length_reverse]
  have h1 := lstrip_len z (lstripS z s).reverse
  have h2 := lstrip_len z s
  rw [List.length_reverse] at h1
  omega
end Sh

/-! MtB: figures' sums and checks by the laws' own walks. -/
namespace Sh
open Dk
theorem fold_sum {α : Type} {b : α → Int → M Int} {v : α → Int} : ∀ (xs : List α) (s : Int), (∀ a ∈ xs, ∀ s, b a s = .ok (s + v a)) → fold b xs s = .ok (s + (xs.map v).sum)
  | [], s, _ => by simp [fold]
  | a :: xs, s, h => by
    unfold fold
    rw [h a (List.mem_cons_self ..), M.bnd_ok, fold_sum xs _ fun y hy => h y (List.mem_cons_of_mem _ hy), List.map_cons, List.sum_cons, Int.add_assoc]
theorem wA_range : ∀ (r : List Nat) (k : Nat), ((List.range r.length).map fun j => ((r.getD j 0 : Nat) - 48 : Int) * (if (j + k) % 2 = 0 then 1 else 3)).sum = wA (if k % 2 = 0 then 1 else 3) r
  | [], _ => rfl
  | c :: r, k => by
    have ih := wA_range r (k + 1)
    rw [List.length_cons, List.range_succ_eq_map, List.map_cons, List.map_map, List.sum_cons]
    have e : ((fun j => (((c :: r).getD j 0 : Nat) - 48 : Int) * (if (j + k) % 2 = 0 then 1 else 3)) ∘ Nat.succ) = fun j => ((r.getD j 0 : Nat) - 48 : Int) * (if (j + (k + 1)) % 2 = 0 then 1 else 3) := by
      funext j
      show ((r.getD j 0 : Nat) - 48 : Int) * (if (j + 1 + k) % 2 = 0 then 1 else 3) = _
      rw [show j + 1 + k = j + (k + 1) by omega]
    rw [e, ih]
    show ((c : Int) - 48) * (if (0 + k) % 2 = 0 then 1 else 3) + wA _ r = ((c : Int) - 48) * _ + wA (4 - _) r
    rw [Nat.zero_add]
    rcases Nat.mod_two_eq_zero_or_one k with h | h
    · have h2 : ¬ (k + 1) % 2 = 0 := by omega
      rw [if_pos h, if_neg h2]; rfl
    · have h2 : (k + 1) % 2 = 0 := by omega
      have h3 : ¬ k % 2 = 0 := by omega
      rw [if_neg h3, if_pos h2]; rfl
theorem hsum_ok {s : List Nat} (h : FigOk s) (hl : s.length ≤ 100000) : h_sum s = .ok (wgt s) := by
  unfold h_sum
  simp only [M.bnd_ok]
  rw [rngM_ok (by omega) (by omega), M.bnd_ok]
  refine bnd_eq (fold_sum (v := fun (a : Int) => ((s.reverse.getD a.toNat 0 : Nat) - 48 : Int) * (if a.toNat % 2 = 0 then 1 else 3)) _ _ ?_) ?_
  · intro a ha t
    obtain ⟨k, hk, rfl⟩ := List.mem_map.mp ha
    have hk : k < s.length := by simpa using hk
    have hi : s.length - 1 - k < s.length := by omega
    have e : s[s.length - 1 - k]? = some s[s.length - 1 - k] := List.getElem?_eq_getElem hi
    have hf := h _ (List.getElem_mem hi)
    have e1 : ixSM s ((s.length : Int) - 1 - (k : Int)) = .ok [s[s.length - 1 - k]] := ixSM_at (by omega) (by rw [show ((s.length : Int) - 1 - (k : Int)).toNat = s.length - 1 - k by omega]; exact e)
    have e2 : s.reverse.getD k 0 = s[s.length - 1 - k] := by
      rw [List.getD_eq_getElem?_getD, List.getElem?_reverse hk, e]; rfl
    have e3 : ixM [(1 : Int), 3] ((k : Int) % 2) = .ok (if k % 2 = 0 then 1 else 3) := by
      rcases Nat.mod_two_eq_zero_or_one k with q | q
      · rw [show (k : Int) % 2 = 0 by omega, if_pos q]; rfl
      · rw [show (k : Int) % 2 = 1 by omega, if_neg (by omega)]; rfl
    simp only [M.bnd_ok, e1, show idxM [48, 49, 50, 51, 52, 53, 54, 55, 56, 57] [s[s.length - 1 - k]] = .ok ((s[s.length - 1 - k] : Int) - 48) from fig_idx hf, modM_ok (j := 2) (by decide), e3, mulIM_l (i := (s[s.length - 1 - k] : Int) - 48) (by omega), Int.toNat_natCast, e2]
  · have e := wA_range s.reverse 0
    rw [List.length_reverse] at e
    rw [List.map_map]
    show M.ok (0 + _) = _
    rw [Int.zero_add]
    unfold wgt
    congr 1
theorem filt10 (W : Int) : (List.range 10).filter (fun (d : Nat) => decide (((d : Int) + W) % 10 = 0)) = [((0 - W) % 10).toNat] := by
  have key : ∀ r : Fin 10, (List.range 10).filter (fun (d : Nat) => decide (((d : Int) + (r.val : Int)) % 10 = 0)) = [((0 - (r.val : Int)) % 10).toNat] := by decide
  have h1 := Int.emod_nonneg W (by decide : (10 : Int) ≠ 0)
  have h2 := Int.emod_lt_of_pos W (by decide : (0 : Int) < 10)
  have := key ⟨(W % 10).toNat, by omega⟩
  have e : (((W % 10).toNat : Nat) : Int) = W % 10 := by omega
  simp only [e] at this
  have e2 : (fun (d : Nat) => decide (((d : Int) + W) % 10 = 0)) = fun (d : Nat) => decide (((d : Int) + W % 10) % 10 = 0) := by
    funext d
    have : ((d : Int) + W) % 10 = ((d : Int) + W % 10) % 10 := by omega
    rw [this]
  rw [e2, this]
  congr 2
  omega
theorem hcheck_ok {s : List Nat} (h : FigOk s) (hl : s.length ≤ 1000) : h_check s = .ok [48 + chkD s] := by
  unfold h_check
  simp only [M.bnd_ok]
  have ec : chars [48, 49, 50, 51, 52, 53, 54, 55, 56, 57] = (List.range 10).map fun d => [48 + d] := by decide
  rw [ec]
  rw [cmpM_ok (p := fun y => decide (wgt (s ++ y) % 10 = 0)) (g := id) _ fun y hy => by
    obtain ⟨d, hd, rfl⟩ := List.mem_map.mp hy
    have hd := List.mem_range.mp hd
    rw [catM_ok (by rw [List.length_singleton]; omega), M.bnd_ok, hsum_ok (fig_snoc h hd) (by rw [List.length_append, List.length_singleton]; omega), M.bnd_ok, modM_ok (by decide), M.bnd_ok]
    exact ⟨rfl, fun _ => rfl⟩]
  rw [M.bnd_ok, List.map_id, List.filter_map]
  have e : ((fun y => decide (wgt (s ++ y) % 10 = 0)) ∘ fun d => [48 + d]) = fun (d : Nat) => decide (((d : Int) + wA 3 s.reverse) % 10 = 0) := by
    funext d
    show decide (wgt (s ++ [48 + d]) % 10 = 0) = _
    rw [wgt_snoc, show (((48 + d : Nat) : Int) - 48) = (d : Int) by omega]
  rw [e, filt10]
  have e2 : ((0 - wA 3 s.reverse) % 10).toNat = chkD s := by
    unfold chkD
    rw [wgt_snoc, show (((48 : Nat) : Int) - 48 + wA 3 s.reverse) = wA 3 s.reverse by omega]
  rw [e2]
  rfl
theorem hthirteen_ok (c : Int) : h_thirteen c = .ok (figI c 12 ++ [48 + chkD (figI c 12)]) := by
  have hq : h_figures c 12 = .ok (figI c 12) := figures_ok (by decide) (by decide)
  unfold h_thirteen
  simp only [M.bnd_ok, hq, hcheck_ok (figI_ok c 12) (by rw [figI_len]; decide)]
  exact catM_ok (by rw [figI_len]; show 12 + 1 ≤ 16777216; decide)
theorem loop_find {α β : Type} {b : α → Unit → M (Stp Unit β)} {p : α → Bool} {v : α → β} : ∀ (xs : List α), (∀ x ∈ xs, b x () = .ok (if p x = true then .rt (v x) else .nx ())) → loop b xs () = .ok (match xs.find? p with
    | some x => .rt (v x)
    | none => .nx ())
  | [], _ => rfl
  | x :: xs, h => by
    unfold loop
    rw [h x (List.mem_cons_self ..), M.bnd_ok, List.find?_cons]
    cases hp : p x with
    | true => simp
    | false =>
      simp only [Bool.false_eq_true, if_false, onS_nx]
      exact loop_find xs fun y hy => h y (List.mem_cons_of_mem _ hy)
theorem zip_rangeG {γ : Type} (f : Nat × Nat → List γ) : ∀ (xs ys : List Nat), xs.length = ys.length → ((List.range xs.length).flatMap fun j => f (xs.getD j 0, ys.getD j 0)) = (xs.zip ys).flatMap f
  | [], [], _ => rfl
  | x :: xs, y :: ys, h => by
    have ih := zip_rangeG f xs ys (by simpa using h)
    rw [List.length_cons, List.range_succ_eq_map, List.flatMap_cons, List.flatMap_map, List.zip_cons_cons, List.flatMap_cons]
    congr 1
  | [], y :: ys, h => by cases h
  | x :: xs, [], h => by cases h
end Sh

/-! MtJ: one figure otherwise, two exchanged, what lacks; sums by places. -/
namespace Sh
open Dk
/-- the weight of the figure ahead of n others -/
def wt (n : Nat) : Int := if n % 2 = 0 then 1 else 3
theorem wt_or (n : Nat) : (wt n = 1 ∧ wt (n + 1) = 3) ∨ (wt n = 3 ∧ wt (n + 1) = 1) := by
  unfold wt
  rcases Nat.mod_two_eq_zero_or_one n with h | h
  · left; rw [if_pos h, if_neg (by omega)]; exact ⟨rfl, rfl⟩
  · right; rw [if_neg (by omega), if_pos (by omega)]; exact ⟨rfl, rfl⟩
theorem wA_app : ∀ (r t : List Nat) (w : Int), wA w (r ++ t) = wA w r + wA (if r.length % 2 = 0 then w else 4 - w) t
  | [], t, w => by simp [wA]
  | c :: r, t, w => by
    show ((c : Int) - 48) * w + wA (4 - w) (r ++ t) = ((c : Int) - 48) * w + wA (4 - w) r + _
    rw [wA_app r t (4 - w), Int.add_assoc]
    congr 2
    rw [List.length_cons]
    rcases Nat.mod_two_eq_zero_or_one r.length with h | h
    · rw [if_pos h, if_neg (by omega)]
    · rw [if_neg (by omega), if_pos (by omega)]
      congr 1
      omega
theorem wgt_app (x y : List Nat) : wgt (x ++ y) = wgt y + wA (wt y.length) x.reverse := by
  unfold wgt
  rw [List.reverse_append, wA_app, List.length_reverse]
  rfl
theorem wgt_mid (a b : List Nat) (c : Nat) : wgt (a ++ c :: b) = wgt b + ((c : Int) - 48) * wt b.length + wA (4 - wt b.length) a.reverse := by
  have e : a ++ c :: b = (a ++ [c]) ++ b := by simp
  rw [e, wgt_app, List.reverse_append, Int.add_assoc]
  rfl
theorem wgt_nought (s : List Nat) : wgt (48 :: s) = wgt s := by
  have := wgt_mid [] s 48
  rw [List.nil_append] at this
  rw [this]
  show wgt s + (((48 : Nat) : Int) - 48) * wt s.length + 0 = wgt s
  rw [show (((48 : Nat) : Int) - 48) = 0 from rfl, Int.zero_mul]
  omega
theorem chkD_nought (s : List Nat) : chkD (48 :: s) = chkD s := by
  unfold chkD
  rw [List.cons_append, wgt_nought]
theorem near_iff {a b : List Nat} {c d : Nat} (h : wgt (a ++ c :: b) % 10 = 0) (hc : 48 ≤ c ∧ c ≤ 57) (hd : 48 ≤ d ∧ d ≤ 57) : wgt (a ++ d :: b) % 10 = 0 ↔ d = c := by
  rw [wgt_mid] at h ⊢
  rcases wt_or b.length with ⟨e, _⟩ | ⟨e, _⟩
  · rw [e] at h ⊢
    generalize wA (4 - 1) a.reverse = A at h ⊢
    generalize wgt b = B at h ⊢
    constructor
    · intro h2; omega
    · rintro rfl; exact h
  · rw [e] at h ⊢
    generalize wA (4 - 3) a.reverse = A at h ⊢
    generalize wgt b = B at h ⊢
    constructor
    · intro h2; omega
    · rintro rfl; exact h
theorem swap_iff {a b : List Nat} {c d : Nat} (h : wgt (a ++ c :: d :: b) % 10 = 0) (hc : 48 ≤ c ∧ c ≤ 57) (hd : 48 ≤ d ∧ d ≤ 57) : wgt (a ++ d :: c :: b) % 10 = 0 ↔ ((c : Int) - d) % 5 = 0 := by
  have k : ∀ x y : Nat, wgt (a ++ x :: y :: b) = wgt b + ((y : Int) - 48) * wt b.length + ((x : Int) - 48) * wt (b.length + 1) + wA (4 - wt (b.length + 1)) a.reverse := fun x y => by
    rw [wgt_mid, List.length_cons]
    have := wgt_mid [] b y
    rw [List.nil_append] at this
    rw [this]
    show wgt b + ((y : Int) - 48) * wt b.length + 0 + _ + _ = _
    omega
  rw [k] at h ⊢
  rcases wt_or b.length with ⟨e, e2⟩ | ⟨e, e2⟩
  · rw [e, e2] at h ⊢
    generalize wA (4 - 3) a.reverse = A at h ⊢
    generalize wgt b = B at h ⊢
    constructor <;> intro h2 <;> omega
  · rw [e, e2] at h ⊢
    generalize wA (4 - 1) a.reverse = A at h ⊢
    generalize wgt b = B at h ⊢
    constructor <;> intro h2 <;> omega
/-! ### what lacks -/
theorem one_fig {c : Nat} (hc : 48 ≤ c ∧ c ≤ 57) : (chars c_FIGURES).filter (fun y => decide (y = [c])) = [[c]] := by
  have : ∀ d : Fin 10, (chars c_FIGURES).filter (fun y => decide (y = [48 + d.val])) = [[48 + d.val]] := by decide
  have q := this ⟨c - 48, by omega⟩
  rw [show 48 + (⟨c - 48, by omega⟩ : Fin 10).val = c by show 48 + (c - 48) = c; omega] at q
  exact q
theorem fig_of {y : List Nat} (h : y ∈ chars c_FIGURES) : ∃ z, y = [z] ∧ 48 ≤ z ∧ z ≤ 57 := by
  obtain ⟨z, hz, rfl⟩ := List.mem_map.mp h
  exact ⟨z, rfl, figB_iff.mp (show figB c_FIGURES = true by decide) z hz⟩
theorem mid_ok {a b : List Nat} {c : Nat} (ha : FigOk a) (hb : FigOk b) (hc : 48 ≤ c ∧ c ≤ 57) : FigOk (a ++ c :: b) := fun x hx => by
  rcases List.mem_append.mp hx with q | q
  · exact ha x q
  · rcases List.mem_cons.mp q with q | q
    · rw [q]; exact hc
    · exact hb x q
/-- the figures that fit, tried at a place -/
theorem try_ok {a b : List Nat} {c : Nat} {ask : List Nat → M Bool} (ha : FigOk a) (hb : FigOk b) (hc : 48 ≤ c ∧ c ≤ 57) (h : wgt (a ++ c :: b) % 10 = 0) (hk : ∀ z, 48 ≤ z ∧ z ≤ 57 → ask [z] = p_fits (a ++ z :: b)) : cmpM ask (fun y => M.ok y) (chars c_FIGURES) = .ok [[c]] := by
  rw [cmpM_ok (p := fun y => decide (y = [c])) (g := fun y => y) _ fun y hy => ?_, List.map_id', one_fig hc]
  obtain ⟨z, rfl, hz⟩ := fig_of hy
  refine ⟨?_, fun _ => rfl⟩
  rw [hk z hz, fits_ok (mid_ok ha hb hz)]
  congr 1
  rw [decide_eq_decide, near_iff h hc hz]
  constructor
  · rintro rfl; rfl
  · intro e; exact List.head_eq_of_cons_eq e
theorem lacking_ok {a b : List Nat} {c : Nat} (ha : FigOk a) (hb : FigOk b) (hc : 48 ≤ c ∧ c ≤ 57) (hl : a.length + b.length ≤ 900) (h : wgt (a ++ c :: b) % 10 = 0) : p_lacking (a ++ 63 :: b) = .ok [c] := by
  unfold p_lacking lakP
  rw [grd_t ⟨by rw [List.length_append, List.length_cons]; omega, by decide⟩]
  have keep : ∀ (z : Nat) (t : List Nat), FigOk t → (t.map fun x => if x = 63 then z else x) = t := fun z t ht => by
    rw [List.map_congr_left (g := fun x => x) fun x hx => if_neg (by have := ht x hx; omega), List.map_id']
  rw [try_ok (a := a) (b := b) (c := c) ha hb hc h fun z hz => ?_]
  · rfl
  · rw [List.map_append, List.map_cons, keep _ a ha, keep _ b hb, if_pos rfl]
    rfl
/-! ### neighbours exchanged -/
def sw (s : List Nat) (k : Nat) : List Nat := s.take k ++ s.getD (k + 1) 0 :: s.getD k 0 :: s.drop (k + 2)
theorem split2 {s : List Nat} {k : Nat} (h : k + 1 < s.length) : s = s.take k ++ s.getD k 0 :: s.getD (k + 1) 0 :: s.drop (k + 2) := by
  have e1 : s.drop k = s.getD k 0 :: s.drop (k + 1) := by
    rw [List.getD_eq_getElem?_getD, List.getElem?_eq_getElem (by omega)]
    exact List.drop_eq_getElem_cons (by omega)
  have e2 : s.drop (k + 1) = s.getD (k + 1) 0 :: s.drop (k + 2) := by
    rw [List.getD_eq_getElem?_getD, List.getElem?_eq_getElem h]
    exact List.drop_eq_getElem_cons h
  rw [← e2, ← e1, List.take_append_drop]
theorem split1 {s : List Nat} {k : Nat} (h : k < s.length) : s = s.take k ++ s.getD k 0 :: s.drop (k + 1) := by
  have e1 : s.drop k = s.getD k 0 :: s.drop (k + 1) := by
    rw [List.getD_eq_getElem?_getD, List.getElem?_eq_getElem (by omega)]
    exact List.drop_eq_getElem_cons (by omega)
  rw [← e1, List.take_append_drop]
theorem getF {s : List Nat} {k : Nat} (h : FigOk s) (hk : k < s.length) : 48 ≤ s.getD k 0 ∧ s.getD k 0 ≤ 57 := by
  rw [List.getD_eq_getElem?_getD, List.getElem?_eq_getElem hk]
  exact h _ (List.getElem_mem hk)
theorem FigOk.take {s : List Nat} (h : FigOk s) (k : Nat) : FigOk (s.take k) := fun c hc => h c (List.mem_of_mem_take hc)
theorem FigOk.drop {s : List Nat} (h : FigOk s) (k : Nat) : FigOk (s.drop k) := fun c hc => h c (List.mem_of_mem_drop hc)
theorem sw_ok {s : List Nat} {k : Nat} (h : FigOk s) (hk : k + 1 < s.length) : FigOk (sw s k) := by
  unfold sw
  refine mid_ok (h.take k) ?_ (getF h hk)
  exact mid_ok (a := []) (fun _ h => by cases h) (h.drop _) (getF h (by omega))
theorem sw_len {s : List Nat} {k : Nat} (hk : k + 1 < s.length) : (sw s k).length = s.length := by
  unfold sw
  rw [List.length_append, List.length_cons, List.length_cons, List.length_take, List.length_drop]
  omega
theorem ixg {s : List Nat} {k : Nat} (hk : k < s.length) : ixSM s (k : Int) = .ok [s.getD k 0] := by
  refine ixSM_at (by omega) ?_
  rw [Int.toNat_natCast, List.getD_eq_getElem?_getD, List.getElem?_eq_getElem hk]
  rfl
theorem exch_ok {s : List Nat} {k : Nat} (hk : k + 1 < s.length) (hl : s.length ≤ 100000) : p_exchanged s (k : Int) = .ok (sw s k) := by
  unfold p_exchanged
  have e1 : ((k : Int) + 1) = ((k + 1 : Nat) : Int) := by omega
  have e2 : ((k : Int) + 2) = ((k + 2 : Nat) : Int) := by omega
  simp only [M.bnd_ok, e1, e2]
  rw [ixg hk, ixg (show k < s.length by omega), cutT _ (by omega), cutF _ (by omega), Int.toNat_natCast, Int.toNat_natCast]
  have l1 : (s.take k).length ≤ 100000 := by rw [List.length_take]; omega
  have l2 : (s.drop (k + 2)).length ≤ 100000 := by rw [List.length_drop]; omega
  simp only [M.bnd_ok]
  rw [catM_ok (by rw [List.length_singleton]; omega)]
  simp only [M.bnd_ok]
  rw [catM_ok (by rw [List.length_append, List.length_singleton, List.length_singleton]; omega)]
  simp only [M.bnd_ok]
  rw [catM_ok (by simp only [List.length_append, List.length_singleton]; omega)]
  unfold sw
  simp
/-- told as silent -/
def silP (s : List Nat) (k : Nat) : Bool := !decide (s.getD k 0 = s.getD (k + 1) 0) && decide (decide (wgt (sw s k) % 10 = 0) = decide (wgt s % 10 = 0))
def silL (s : List Nat) : List Int := ((List.range (s.length - 1)).map fun (k : Nat) => (k : Int)).flatMap fun a => if silP s a.toNat = true then [a] else []
theorem silent_ok {s : List Nat} (h : FigOk s) (h1 : 1 ≤ s.length) (hl : s.length ≤ 1000) : p_silent s = .ok (silL s) := by
  unfold p_silent
  simp only [M.bnd_ok]
  rw [rngM_ok (by omega) (by omega)]
  simp only [M.bnd_ok]
  rw [show ((s.length : Int) - 1).toNat = s.length - 1 by omega]
  rw [fold_cat (g := fun a => if silP s a.toNat = true then [a] else []) (m := 1) (N := 100000) _ [] ?_ ?_ ?_]
  · rfl
  · intro a ha s6 hs6
    obtain ⟨k, hk, rfl⟩ := List.mem_map.mp ha
    have hk := List.mem_range.mp hk
    have e1 : ((k : Int) + 1) = ((k + 1 : Nat) : Int) := by omega
    simp only [e1]
    rw [ixg (show k < s.length by omega), ixg (show k + 1 < s.length by omega), exch_ok (by omega) (by omega)]
    simp only [M.bnd_ok]
    rw [fits_ok (sw_ok h (by omega)), fits_ok h, Int.toNat_natCast]
    simp only [M.bnd_ok]
    have e2 : decide (([s.getD k 0] : List Nat) = [s.getD (k + 1) 0]) = decide (s.getD k 0 = s.getD (k + 1) 0) := by
      rw [decide_eq_decide]
      exact ⟨fun e => List.head_eq_of_cons_eq e, fun e => by rw [e]⟩
    rw [e2]
    unfold silP
    cases q : decide (s.getD k 0 = s.getD (k + 1) 0) with
    | true => simp
    | false =>
      simp only [Bool.not_false, if_true, Bool.true_and, M.bnd_ok]
      cases q2 : decide (decide (wgt (sw s k) % 10 = 0) = decide (wgt s % 10 = 0)) with
      | true =>
        simp only [if_true]
        rw [grd_t (by have e : lim = 16777216 := rfl; omega)]
      | false => simp
  · intro a _
    split <;> simp
  · rw [List.length_map, List.length_range, List.length_nil]
    omega
theorem sil_mem {s : List Nat} {k : Nat} (hk : k + 1 < s.length) : memB (k : Int) (silL s) = silP s k := by
  unfold memB silL
  rw [show silP s k = decide (silP s k = true) by cases silP s k <;> rfl, decide_eq_decide, List.mem_flatMap]
  constructor
  · rintro ⟨a, ha, h⟩
    split at h
    · rename_i q
      have e := List.mem_singleton.mp h
      rw [← e, Int.toNat_natCast] at q
      exact q
    · cases h
  · intro h
    refine ⟨(k : Int), List.mem_map.mpr ⟨k, List.mem_range.mpr (by omega), rfl⟩, ?_⟩
    rw [Int.toNat_natCast, if_pos h]
    exact List.mem_singleton.mpr rfl
/-! ### numbers times their places -/
def plS : Nat → List Int → Int
  | _, [] => 0
  | k, v :: vs => (k : Int) * v + plS (k + 1) vs
def modS (vs : List Int) : Int := vs.headD 0 + plS 0 vs
theorem pl_enum : ∀ (vs : List Int) (k : Nat), ((enumF k vs).map fun y => y.1 * y.2).sum = plS k vs
  | [], _ => rfl
  | v :: vs, k => by
    show ((k : Int) * v :: (enumF (k + 1) vs).map _).sum = _
    rw [List.sum_cons, pl_enum vs (k + 1)]
    rfl
theorem modc_ok {vs : List Int} {m : Int} (h : 1 ≤ vs.length) (hl : vs.length ≤ 100000) (hm : 0 < m) : p_mod_check vs m = .ok (modS vs % m) := by
  unfold p_mod_check
  simp only [M.bnd_ok]
  rw [mapM_ok (g := fun y => y.1 * y.2) _ fun y hy => by
    obtain ⟨h1, h2, _, _⟩ := mem_enumF hy
    exact mulIM_l (by omega)]
  obtain ⟨v, t, rfl⟩ : ∃ v t, vs = v :: t := by
    cases vs with
    | nil => simp at h
    | cons v t => exact ⟨v, t, rfl⟩
  have e : ixM (v :: t) 0 = .ok v := ixM_at (by decide) rfl
  rw [e]
  simp only [M.bnd_ok, pl_enum, modM_ok hm]
  rfl
theorem pl_zip : ∀ (a b : List Int) (k : Nat), a.length = b.length → plS k ((a.zip b).map fun p => p.1 + p.2) = plS k a + plS k b
  | [], [], _, _ => rfl
  | [], _ :: _, _, h => by cases h
  | _ :: _, [], _, h => by cases h
  | x :: a, y :: b, k, h => by
    show (k : Int) * (x + y) + plS (k + 1) ((a.zip b).map fun p => p.1 + p.2) = (k : Int) * x + plS (k + 1) a + ((k : Int) * y + plS (k + 1) b)
    rw [pl_zip a b (k + 1) (Nat.succ.inj h), Int.mul_add]
    omega
theorem mod_zip {a b : List Int} (h : a.length = b.length) : modS ((a.zip b).map fun p => p.1 + p.2) = modS a + modS b := by
  unfold modS
  rw [pl_zip a b 0 h]
  cases a with
  | nil => cases b with
    | nil => rfl
    | cons _ _ => cases h
  | cons x a => cases b with
    | nil => cases h
    | cons y b =>
      show x + y + _ = x + _ + (y + _)
      omega
theorem pl_snoc : ∀ (a : List Int) (k : Nat), plS k (a ++ [1]) = plS k a + ((k + a.length : Nat) : Int)
  | [], k => by
    show (k : Int) * 1 + 0 = 0 + _
    simp
  | x :: a, k => by
    show (k : Int) * x + plS (k + 1) (a ++ [1]) = (k : Int) * x + plS (k + 1) a + _
    rw [pl_snoc a (k + 1), List.length_cons, Int.add_assoc]
    congr 2
    omega
theorem mod_snoc {a : List Int} (h : 1 ≤ a.length) : modS (a ++ [1]) = modS a + (a.length : Int) := by
  unfold modS
  rw [pl_snoc a 0]
  cases a with
  | nil => simp at h
  | cons x a =>
    show x + (plS 0 (x :: a) + ((0 + (a.length + 1) : Nat) : Int)) = x + plS 0 (x :: a) + ((a.length + 1 : Nat) : Int)
    rw [Nat.zero_add, Int.add_assoc]
theorem mod_one (v : Int) : modS [v] = v := by
  show v + (((0 : Nat) : Int) * v + 0) = v
  simp
end Sh

/-! ### the text of the law in the small language -/
namespace Law
open PySem PySem.Spec PyProof.Rows L2 Dk
def top (i : Nat) : Stmt := PySem.Challenge.pw_bargaps_k03_checks.main.body.getD i (.Pass ⟨0, 0, 0, 0⟩)
/-- weighed -/
def f0 : Fn := ⟨1, 3,
 (.cons (.ret (.bi .sum (.cons (.comp (.bin .mul (.bi .int (.cons (.slot 2) .nil)) (.ix (.tup (.cons (.lit (.int (1))) (.cons (.lit (.int (3))) .nil))) (.bin .mod (.slot 1) (.lit (.int (2)))))) (.many [1, 2]) (.enum (.rev (.slot 0))) (.lit (.bl true)) [1, 2]) .nil))) .nil)⟩
/-- check_of -/
def f1 : Fn := ⟨1, 1,
 (.cons (.ret (.ix (.glob 0) (.bin .mod (.bin .sub (.lit (.int (0))) (.call 0 (.cons (.bin .add (.slot 0) (.lit (.str [48]))) .nil))) (.lit (.int (10)))))) .nil)⟩
/-- fits -/
def f2 : Fn := ⟨1, 1,
 (.cons (.ret (.cmp .eq (.bin .mod (.call 0 (.cons (.slot 0) .nil)) (.lit (.int (10)))) (.lit (.int (0))))) .nil)⟩
/-- lacking -/
def f3 : Fn := ⟨1, 2,
 .cons .wrd (.cons (.exp (.call 2 (.cons (.glob 0) .nil))) .nil)⟩
/-- exchanged -/
def f4 : Fn := ⟨2, 2,
 (.cons (.ret (.bin .add (.bin .add (.bin .add (.sl (.slot 0) .omit (.slot 1)) (.ix (.slot 0) (.bin .add (.slot 1) (.lit (.int (1)))))) (.ix (.slot 0) (.slot 1))) (.sl (.slot 0) (.bin .add (.slot 1) (.lit (.int (2)))) .omit))) .nil)⟩
/-- silent -/
def f5 : Fn := ⟨1, 3,
 (.cons (.setM 1 (.lst (.nil)))
 (.cons (.for_ (.one 2) (.rng1 (.bin .sub (.bi .len (.cons (.slot 0) .nil)) (.lit (.int (1)))))
 (.cons (.ite (.and_ (.cmp .ne (.ix (.slot 0) (.slot 2)) (.ix (.slot 0) (.bin .add (.slot 2) (.lit (.int (1)))))) (.cmp .eq (.call 2 (.cons (.call 4 (.cons (.slot 0) (.cons (.slot 2) .nil))) .nil)) (.call 2 (.cons (.slot 0) .nil))))
 (.cons (.app 1 (.slot 2)) .nil)
 (.nil)) .nil))
 (.cons (.ret (.bi .tuple (.cons (.slot 1) .nil))) .nil)))⟩
/-- mod_check -/
def f6 : Fn := ⟨2, 4,
 (.cons (.ret (.bin .mod (.bin .add (.ix (.slot 0) (.lit (.int (0)))) (.bi .sum (.cons (.comp (.bin .mul (.slot 2) (.slot 3)) (.many [2, 3]) (.enum (.slot 0)) (.lit (.bl true)) [2, 3]) .nil))) (.slot 1))) .nil)⟩
/-- _law_cell -/
def f7 : Fn := ⟨2, 2,
 (.cons (.ite (.cmp .lt (.slot 1) (.bi .len (.cons (.slot 0) .nil)))
 (.cons (.ret (.ix (.slot 0) (.slot 1))) .nil)
 (.nil))
 (.cons (.ret (.lit (.int (0)))) .nil))⟩
/-- _law_mix -/
def f8 : Fn := ⟨3, 4,
 (.cons (.set 3 (.bin .mod (.bin .mul (.slot 0) (.lit (.int (48271)))) (.slot 1)))
 (.cons (.ret (.bin .mod (.bin .mod (.bin .mul (.slot 3) (.bin .add (.slot 3) (.lit (.int (7))))) (.slot 1)) (.slot 2))) .nil))⟩
/-- _law_same -/
def f9 : Fn := ⟨2, 4,
 (.cons (.ite (.isi (.slot 1) .tup)
 (.cons (.ite (.or_ (.not_ (.isi (.slot 0) .tup)) (.cmp .ne (.bi .len (.cons (.slot 0) .nil)) (.bi .len (.cons (.slot 1) .nil))))
 (.cons (.ret (.lit (.bl false))) .nil)
 (.nil))
 (.cons (.ret (.bi .all (.cons (.comp (.call 9 (.cons (.slot 2) (.cons (.slot 3) .nil))) (.many [2, 3]) (.zip (.slot 0) (.slot 1)) (.lit (.bl true)) [2, 3]) .nil))) .nil))
 (.nil))
 (.cons (.ite (.cmp .is (.slot 1) (.lit (.non)))
 (.cons (.ret (.cmp .is (.slot 0) (.lit (.non)))) .nil)
 (.nil))
 (.cons (.ite (.or_ (.isi (.slot 1) .bl) (.isi (.slot 0) .bl))
 (.cons (.ret (.and_ (.isi (.slot 1) .bl) (.and_ (.isi (.slot 0) .bl) (.cmp .eq (.slot 0) (.slot 1))))) .nil)
 (.nil))
 (.cons (.ret (.and_ (.isi (.slot 0) .intstr) (.cmp .eq (.slot 0) (.slot 1)))) .nil))))⟩
/-- _law_figures -/
def f10 : Fn := ⟨2, 3,
 (.cons (.ret (.me .join (.lit (.str [])) (.cons (.comp (.ix (.lit (.str [48, 49, 50, 51, 52, 53, 54, 55, 56, 57])) (.call 8 (.cons (.bin .add (.slot 0) (.bin .mul (.lit (.int (11))) (.slot 2))) (.cons (.lit (.int (9949))) (.cons (.lit (.int (10))) .nil))))) (.one 2) (.rng1 (.slot 1)) (.lit (.bl true)) [2]) .nil))) .nil)⟩
/-- _law_sum -/
def f11 : Fn := ⟨1, 4,
 (.cons (.set 1 (.lit (.int (0))))
 (.cons (.for_ (.one 2) (.rng1 (.bi .len (.cons (.slot 0) .nil)))
 (.cons (.set 3 (.me .index (.lit (.str [48, 49, 50, 51, 52, 53, 54, 55, 56, 57])) (.cons (.ix (.slot 0) (.bin .sub (.bin .sub (.bi .len (.cons (.slot 0) .nil)) (.lit (.int (1)))) (.slot 2))) .nil)))
 (.cons (.set 1 (.bin .add (.slot 1) (.bin .mul (.slot 3) (.ix (.tup (.cons (.lit (.int (1))) (.cons (.lit (.int (3))) .nil))) (.bin .mod (.slot 2) (.lit (.int (2)))))))) .nil)))
 (.cons (.ret (.slot 1)) .nil)))⟩
/-- _law_check -/
def f12 : Fn := ⟨1, 2,
 (.cons (.ret (.ix (.comp (.slot 1) (.one 1) (.val (.lit (.str [48, 49, 50, 51, 52, 53, 54, 55, 56, 57]))) (.cmp .eq (.bin .mod (.call 11 (.cons (.bin .add (.slot 0) (.slot 1)) .nil)) (.lit (.int (10)))) (.lit (.int (0)))) [1]) (.lit (.int (0))))) .nil)⟩
/-- law -/
def f13 : Fn := ⟨1, 17,
 (.cons (.for_ (.one 1) (.rng1 (.lit (.int (16))))
 (.cons (.set 2 (.bin .add (.call 7 (.cons (.slot 0) (.cons (.bin .mod (.slot 1) (.lit (.int (9)))) .nil))) (.bin .mul (.lit (.int (31))) (.slot 1))))
 (.cons (.set 3 (.call 10 (.cons (.slot 2) (.cons (.bin .add (.lit (.int (1))) (.call 8 (.cons (.slot 2) (.cons (.lit (.int (9857))) (.cons (.lit (.int (20))) .nil))))) .nil))))
 (.cons (.set 4 (.bin .add (.slot 3) (.call 12 (.cons (.slot 3) .nil))))
 (.cons (.ite (.not_ (.call 9 (.cons (.tup (.cons (.call 1 (.cons (.slot 3) .nil)) (.cons (.call 2 (.cons (.slot 4) .nil)) .nil))) (.cons (.tup (.cons (.call 12 (.cons (.slot 3) .nil)) (.cons (.lit (.bl true)) .nil))) .nil))))
 (.cons (.ret (.lit (.bl false))) .nil)
 (.nil))
 (.cons (.set 5 (.call 10 (.cons (.bin .add (.call 7 (.cons (.slot 0) (.cons (.lit (.int (9))) .nil))) (.bin .mul (.lit (.int (7))) (.slot 1))) (.cons (.bin .add (.lit (.int (2))) (.slot 1)) .nil))))
 (.cons (.for_ (.one 6) (.val (.tup (.cons (.slot 4) (.cons (.slot 5) .nil))))
 (.cons (.ite (.not_ (.call 9 (.cons (.call 2 (.cons (.slot 6) .nil)) (.cons (.cmp .eq (.bin .mod (.call 11 (.cons (.slot 6) .nil)) (.lit (.int (10)))) (.lit (.int (0)))) .nil))))
 (.cons (.ret (.lit (.bl false))) .nil)
 (.nil))
 (.cons (.set 11 (.call 8 (.cons (.slot 2) (.cons (.lit (.int (9851))) (.cons (.bi .len (.cons (.slot 6) .nil)) .nil)))))
 (.cons (.set 12 (.bin .add (.bin .add (.sl (.slot 6) .omit (.slot 11)) (.lit (.str [63]))) (.sl (.slot 6) (.bin .add (.slot 11) (.lit (.int (1)))) .omit)))
 (.cons (.set 13 (.comp (.slot 16) (.one 16) (.val (.lit (.str [48, 49, 50, 51, 52, 53, 54, 55, 56, 57]))) (.cmp .eq (.bin .mod (.call 11 (.cons (.me .replace (.slot 12) (.cons (.lit (.str [63])) (.cons (.slot 16) .nil))) .nil)) (.lit (.int (10)))) (.lit (.int (0)))) [16]))
 (.cons (.ite (.or_ (.not_ (.call 9 (.cons (.call 17 (.cons (.slot 12) .nil)) (.cons (.ix (.slot 13) (.lit (.int (0)))) .nil)))) (.cmp .ne (.bi .len (.cons (.slot 13) .nil)) (.lit (.int (1)))))
 (.cons (.ret (.lit (.bl false))) .nil)
 (.nil))
 (.cons (.setM 14 (.lst (.nil)))
 (.cons (.for_ (.one 9) (.rng1 (.bin .sub (.bi .len (.cons (.slot 6) .nil)) (.lit (.int (1)))))
 (.cons (.set 15 (.bin .add (.bin .add (.bin .add (.sl (.slot 6) .omit (.slot 9)) (.ix (.slot 6) (.bin .add (.slot 9) (.lit (.int (1)))))) (.ix (.slot 6) (.slot 9))) (.sl (.slot 6) (.bin .add (.slot 9) (.lit (.int (2)))) .omit)))
 (.cons (.ite (.and_ (.cmp .ne (.slot 15) (.slot 6)) (.cmp .eq (.cmp .eq (.bin .mod (.call 11 (.cons (.slot 15) .nil)) (.lit (.int (10)))) (.lit (.int (0)))) (.cmp .eq (.bin .mod (.call 11 (.cons (.slot 6) .nil)) (.lit (.int (10)))) (.lit (.int (0))))))
 (.cons (.app 14 (.slot 9)) .nil)
 (.nil)) .nil)))
 (.cons (.ite (.not_ (.call 9 (.cons (.call 5 (.cons (.slot 6) .nil)) (.cons (.bi .tuple (.cons (.slot 14) .nil)) .nil))))
 (.cons (.ret (.lit (.bl false))) .nil)
 (.nil)) .nil)))))))))
 (.cons (.set 7 (.bi .tuple (.cons (.comp (.call 8 (.cons (.bin .add (.slot 2) (.bin .mul (.lit (.int (5))) (.slot 9))) (.cons (.lit (.int (9839))) (.cons (.lit (.int (108))) .nil)))) (.one 9) (.rng1 (.bin .add (.lit (.int (1))) (.slot 1))) (.lit (.bl true)) [9]) .nil)))
 (.cons (.set 8 (.ix (.slot 7) (.lit (.int (0)))))
 (.cons (.for_ (.one 9) (.rng2 (.lit (.int (1))) (.bi .len (.cons (.slot 7) .nil)))
 (.cons (.set 8 (.bin .add (.slot 8) (.bin .mul (.slot 9) (.ix (.slot 7) (.slot 9))))) .nil))
 (.cons (.set 10 (.bin .add (.lit (.int (1))) (.call 8 (.cons (.slot 2) (.cons (.lit (.int (9833))) (.cons (.lit (.int (200))) .nil))))))
 (.cons (.ite (.not_ (.call 9 (.cons (.tup (.cons (.call 6 (.cons (.slot 7) (.cons (.slot 10) .nil))) (.cons (.call 6 (.cons (.slot 7) (.cons (.lit (.int (103))) .nil))) .nil))) (.cons (.tup (.cons (.bin .mod (.slot 8) (.slot 10)) (.cons (.bin .mod (.slot 8) (.lit (.int (103)))) .nil))) .nil))))
 (.cons (.ret (.lit (.bl false))) .nil)
 (.nil)) .nil))))))))))))
 (.cons (.ret (.and_ (.cmp .eq (.call 1 (.cons (.lit (.str [52, 48, 48, 54, 51, 56, 49, 51, 51, 51, 57, 51])) .nil)) (.lit (.str [49]))) (.cmp .eq (.call 17 (.cons (.lit (.str [52, 48, 48, 54, 51, 56, 49, 63, 51, 51, 57, 51, 49])) .nil)) (.lit (.str [51]))))) .nil))⟩
def fns : List Fn := [f0, f1, f2, f3, f4, f5, f6, f7, f8, f9, f10, f11, f12, f13]
def cnv : List D := [.str [48, 49, 50, 51, 52, 53, 54, 55, 56, 57]]
def ess : List (Str × List Bool) := []
def tab : Tab := ⟨fns, cnv, wordF, subOf ess⟩

end Law

namespace Law
open Dk Sh
noncomputable section
def l_law_c4 (v_some : (List Nat)) (v_quiet : (List Int)) : M ((Stp (Unit) Bool)) :=
  ((((((M.ok v_some).bnd fun x160 => p_silent x160).bnd fun a => M.ok ((eT eI) a))).bnd fun x162 => ((((M.ok v_quiet).bnd fun x161 => M.ok x161).bnd fun a => M.ok ((eT eI) a))).bnd fun x163 => h_same x162 x163).bnd fun x164 => M.ok (!x164)).bnd fun c166 => if c166 = true then
  (M.ok false).bnd fun x165 => M.ok (Stp.rt x165)
  else
  M.ok (Stp.nx ())
def l_law_c3 (v_some : (List Nat)) : M ((Stp (Unit) Bool)) :=
  ((M.ok [] : M (List Int))).bnd fun v_quiet_109 =>
  ((((M.ok v_some).bnd fun x110 => M.ok (x110.length : Int)).bnd fun x111 => (M.ok (1 : Int)).bnd fun x112 => M.ok (x111 - x112)).bnd fun x113 => rngM 0 x113 1).bnd fun x167 => (fold (fun (a116 : Int) (s114 : ((List Int))) =>
  (((((M.ok v_some).bnd fun x118 => (M.ok none).bnd fun x119 => ((M.ok a116).bnd fun x117 => M.ok (some x117)).bnd fun x120 => M.ok (cut x118 x119 x120)).bnd fun x125 => ((M.ok v_some).bnd fun x123 => ((M.ok a116).bnd fun x121 => (M.ok (1 : Int)).bnd fun x122 => M.ok (x121 + x122)).bnd fun x124 => ixSM x123 x124).bnd fun x126 => catM x125 x126).bnd fun x129 => ((M.ok v_some).bnd fun x127 => (M.ok a116).bnd fun x128 => ixSM x127 x128).bnd fun x130 => catM x129 x130).bnd fun x137 => ((M.ok v_some).bnd fun x134 => (((M.ok a116).bnd fun x131 => (M.ok (2 : Int)).bnd fun x132 => M.ok (x131 + x132)).bnd fun x133 => M.ok (some x133)).bnd fun x135 => (M.ok none).bnd fun x136 => M.ok (cut x134 x135 x136)).bnd fun x138 => catM x137 x138).bnd fun v_other_139 =>
  (((M.ok v_other_139).bnd fun x140 => (M.ok v_some).bnd fun x141 => M.ok (!decide (x140 = x141))).bnd fun x154 => if x154 = true then ((((M.ok v_other_139).bnd fun x142 => h_sum x142).bnd fun x143 => (M.ok (10 : Int)).bnd fun x144 => modM x143 x144).bnd fun x145 => (M.ok (0 : Int)).bnd fun x146 => M.ok (decide (x145 = x146))).bnd fun x152 => ((((M.ok v_some).bnd fun x147 => h_sum x147).bnd fun x148 => (M.ok (10 : Int)).bnd fun x149 => modM x148 x149).bnd fun x150 => (M.ok (0 : Int)).bnd fun x151 => M.ok (decide (x150 = x151))).bnd fun x153 => M.ok (decide (x152 = x153)) else M.ok false).bnd fun c157 => if c157 = true then
  (M.ok a116).bnd fun x156 => M.grd (s114.length < lim) ((fun v_quiet_155 =>
  M.ok v_quiet_155) (s114 ++ [x156]))
  else
  M.ok s114) x167 v_quiet_109).bnd fun s158 =>
  l_law_c4 (v_some) (s158)
def l_law_c2 (v_cell_here : Int) (v_some : (List Nat)) : M ((Stp (Unit) Bool)) :=
  ((M.ok v_cell_here).bnd fun x67 => (M.ok (9851 : Int)).bnd fun x68 => ((M.ok v_some).bnd fun x66 => M.ok (x66.length : Int)).bnd fun x69 => h_mix x67 x68 x69).bnd fun v_place_70 =>
  ((((M.ok v_some).bnd fun x72 => (M.ok none).bnd fun x73 => ((M.ok v_place_70).bnd fun x71 => M.ok (some x71)).bnd fun x74 => M.ok (cut x72 x73 x74)).bnd fun x75 => (M.ok ([63] : List Nat)).bnd fun x76 => catM x75 x76).bnd fun x83 => ((M.ok v_some).bnd fun x80 => (((M.ok v_place_70).bnd fun x77 => (M.ok (1 : Int)).bnd fun x78 => M.ok (x77 + x78)).bnd fun x79 => M.ok (some x79)).bnd fun x81 => (M.ok none).bnd fun x82 => M.ok (cut x80 x81 x82)).bnd fun x84 => catM x83 x84).bnd fun v_gone_85 =>
  (((M.ok ([48, 49, 50, 51, 52, 53, 54, 55, 56, 57] : List Nat)).bnd fun x86 => M.ok (chars x86)).bnd fun x88 => cmpM (fun y87 => ((((M.ok v_gone_85).bnd fun x89 => (M.ok ([63] : List Nat)).bnd fun x90 => (M.ok y87).bnd fun x91 => replM x89 x90 x91).bnd fun x92 => h_sum x92).bnd fun x93 => (M.ok (10 : Int)).bnd fun x94 => modM x93 x94).bnd fun x95 => (M.ok (0 : Int)).bnd fun x96 => M.ok (decide (x95 = x96))) (fun y87 => M.ok y87) x88).bnd fun v_due_97 =>
  (((((((M.ok v_gone_85).bnd fun x98 => p_lacking x98).bnd fun a => M.ok (eS a))).bnd fun x101 => ((((M.ok v_due_97).bnd fun x99 => (M.ok (0 : Int)).bnd fun x100 => ixM x99 x100).bnd fun a => M.ok (eS a))).bnd fun x102 => h_same x101 x102).bnd fun x103 => M.ok (!x103)).bnd fun x107 => if x107 = true then M.ok true else ((M.ok v_due_97).bnd fun x104 => M.ok (x104.length : Int)).bnd fun x105 => (M.ok (1 : Int)).bnd fun x106 => M.ok (!decide (x105 = x106))).bnd fun c168 => if c168 = true then
  (M.ok false).bnd fun x108 => M.ok (Stp.rt x108)
  else
  l_law_c3 (v_some)
def l_law_c6 (v_cell_here : Int) (v_values : (List Int)) (v_total_now : Int) : M ((Stp (Unit) Bool)) :=
  ((M.ok (1 : Int)).bnd fun x207 => ((M.ok v_cell_here).bnd fun x204 => (M.ok (9833 : Int)).bnd fun x205 => (M.ok (200 : Int)).bnd fun x206 => h_mix x204 x205 x206).bnd fun x208 => M.ok (x207 + x208)).bnd fun v_by_209 =>
  (((((((M.ok v_values).bnd fun x210 => (M.ok v_by_209).bnd fun x211 => p_mod_check x210 x211).bnd fun x216 => (((M.ok v_values).bnd fun x212 => (M.ok (103 : Int)).bnd fun x213 => p_mod_check x212 x213).bnd fun x214 => (M.ok []).bnd fun x215 => M.ok (x214 :: x215)).bnd fun x217 => M.ok (x216 :: x217)).bnd fun a => M.ok ((eT eI) a))).bnd fun x226 => (((((M.ok v_total_now).bnd fun x218 => (M.ok v_by_209).bnd fun x219 => modM x218 x219).bnd fun x224 => (((M.ok v_total_now).bnd fun x220 => (M.ok (103 : Int)).bnd fun x221 => modM x220 x221).bnd fun x222 => (M.ok []).bnd fun x223 => M.ok (x222 :: x223)).bnd fun x225 => M.ok (x224 :: x225)).bnd fun a => M.ok ((eT eI) a))).bnd fun x227 => h_same x226 x227).bnd fun x228 => M.ok (!x228)).bnd fun c230 => if c230 = true then
  (M.ok false).bnd fun x229 => M.ok (Stp.rt x229)
  else
  M.ok (Stp.nx ())
def l_law_c5 (v_k : Int) (v_cell_here : Int) : M ((Stp (Unit) Bool)) :=
  (((((M.ok (1 : Int)).bnd fun x172 => (M.ok v_k).bnd fun x173 => M.ok (x172 + x173)).bnd fun x174 => rngM 0 x174 1).bnd fun x183 => mapM (fun y175 => ((M.ok v_cell_here).bnd fun x178 => ((M.ok (5 : Int)).bnd fun x176 => (M.ok y175).bnd fun x177 => mulIM x176 x177).bnd fun x179 => M.ok (x178 + x179)).bnd fun x180 => (M.ok (9839 : Int)).bnd fun x181 => (M.ok (108 : Int)).bnd fun x182 => h_mix x180 x181 x182) x183).bnd fun x184 => M.ok x184).bnd fun v_values_185 =>
  ((M.ok v_values_185).bnd fun x186 => (M.ok (0 : Int)).bnd fun x187 => ixM x186 x187).bnd fun v_total_now_188 =>
  ((M.ok (1 : Int)).bnd fun x190 => ((M.ok v_values_185).bnd fun x189 => M.ok (x189.length : Int)).bnd fun x191 => rngM x190 x191 1).bnd fun x231 => (fold (fun (a194 : Int) (s192 : (Int)) =>
  ((M.ok s192).bnd fun x199 => ((M.ok a194).bnd fun x197 => ((M.ok v_values_185).bnd fun x195 => (M.ok a194).bnd fun x196 => ixM x195 x196).bnd fun x198 => mulIM x197 x198).bnd fun x200 => M.ok (x199 + x200)).bnd fun v_total_now_201 =>
  M.ok v_total_now_201) x231 v_total_now_188).bnd fun s202 =>
  l_law_c6 (v_cell_here) (v_values_185) (s202)
def l_law_c1 (v_script : (List Int)) (v_k : Int) (v_cell_here : Int) (v_full : (List Nat)) : M ((Stp (Unit) Bool)) :=
  ((((M.ok v_script).bnd fun x37 => (M.ok (9 : Int)).bnd fun x38 => h_cell x37 x38).bnd fun x41 => ((M.ok (7 : Int)).bnd fun x39 => (M.ok v_k).bnd fun x40 => mulIM x39 x40).bnd fun x42 => M.ok (x41 + x42)).bnd fun x45 => ((M.ok (2 : Int)).bnd fun x43 => (M.ok v_k).bnd fun x44 => M.ok (x43 + x44)).bnd fun x46 => h_figures x45 x46).bnd fun v_near_47 =>
  (((M.ok v_full).bnd fun x50 => ((M.ok v_near_47).bnd fun x48 => (M.ok []).bnd fun x49 => M.ok (x48 :: x49)).bnd fun x51 => M.ok (x50 :: x51)).bnd fun x52 => M.ok x52).bnd fun x232 => (loop (fun (a55 : (List Nat)) (s53 : Unit) =>
  ((((((M.ok a55).bnd fun x56 => p_fits x56).bnd fun a => M.ok (eB a))).bnd fun x62 => ((((((M.ok a55).bnd fun x57 => h_sum x57).bnd fun x58 => (M.ok (10 : Int)).bnd fun x59 => modM x58 x59).bnd fun x60 => (M.ok (0 : Int)).bnd fun x61 => M.ok (decide (x60 = x61))).bnd fun a => M.ok (eB a))).bnd fun x63 => h_same x62 x63).bnd fun x64 => M.ok (!x64)).bnd fun c169 => if c169 = true then
  (M.ok false).bnd fun x65 => M.ok (Stp.rt x65)
  else
  l_law_c2 (v_cell_here) (a55)) x232 ()).bnd fun r233 => onS r233 (fun s170 =>
  l_law_c5 (v_k) (v_cell_here)) Stp.rt
def l_law_c7  : M (Bool) :=
  (((M.ok ([52, 48, 48, 54, 51, 56, 49, 51, 51, 51, 57, 51] : List Nat)).bnd fun x434 => p_check_of x434).bnd fun x435 => (M.ok ([49] : List Nat)).bnd fun x436 => M.ok (decide (x435 = x436))).bnd fun x440 => if x440 = true then ((M.ok ([52, 48, 48, 54, 51, 56, 49, 63, 51, 51, 57, 51, 49] : List Nat)).bnd fun x437 => p_lacking x437).bnd fun x438 => (M.ok ([51] : List Nat)).bnd fun x439 => M.ok (decide (x438 = x439)) else M.ok false
def l_law (v_script : (List Int)) : M Bool :=
  ((M.ok (16 : Int)).bnd fun x1 => rngM 0 x1 1).bnd fun x448 => (loop (fun (a4 : Int) (s2 : Unit) =>
  (((M.ok v_script).bnd fun x7 => ((M.ok a4).bnd fun x5 => (M.ok (9 : Int)).bnd fun x6 => modM x5 x6).bnd fun x8 => h_cell x7 x8).bnd fun x11 => ((M.ok (31 : Int)).bnd fun x9 => (M.ok a4).bnd fun x10 => mulIM x9 x10).bnd fun x12 => M.ok (x11 + x12)).bnd fun v_cell_here_13 =>
  ((M.ok v_cell_here_13).bnd fun x19 => ((M.ok (1 : Int)).bnd fun x17 => ((M.ok v_cell_here_13).bnd fun x14 => (M.ok (9857 : Int)).bnd fun x15 => (M.ok (20 : Int)).bnd fun x16 => h_mix x14 x15 x16).bnd fun x18 => M.ok (x17 + x18)).bnd fun x20 => h_figures x19 x20).bnd fun v_figures_here_21 =>
  ((M.ok v_figures_here_21).bnd fun x23 => ((M.ok v_figures_here_21).bnd fun x22 => h_check x22).bnd fun x24 => catM x23 x24).bnd fun v_full_25 =>
  (((((((M.ok v_figures_here_21).bnd fun x26 => p_check_of x26).bnd fun x28 => ((M.ok v_full_25).bnd fun x27 => p_fits x27).bnd fun x29 => M.ok (x28, x29)).bnd fun a => M.ok ((eP eS eB) a))).bnd fun x33 => (((((M.ok v_figures_here_21).bnd fun x30 => h_check x30).bnd fun x31 => (M.ok true).bnd fun x32 => M.ok (x31, x32)).bnd fun a => M.ok ((eP eS eB) a))).bnd fun x34 => h_same x33 x34).bnd fun x35 => M.ok (!x35)).bnd fun c431 => if c431 = true then
  (M.ok false).bnd fun x36 => M.ok (Stp.rt x36)
  else
  l_law_c1 (v_script) (a4) (v_cell_here_13) (v_full_25)) x448 ()).bnd fun r449 => onS r449 (fun s432 =>
  l_law_c7) (fun a => a)
end
end Law
namespace Law
open Dk Sh
theorem sim__law_same (N : Nat) (hN : 8 ≤ N) (a b : Dk.D) : Sim eB (run tab N 9 [eD a, eD b]) (h_same a b) := same_sim rfl N hN a b
theorem sim_weighed (N : Nat) (hN : 1 ≤ N) (v_figures : (List Nat)) : Sim eI (run tab N 0 [eS v_figures]) (p_weighed v_figures) := by
  obtain ⟨n, rfl⟩ : ∃ n, N = n + 1 := ⟨N - 1, by omega⟩
  exact fn_sim [some (.im (eS v_figures)), none, none] rfl rfl rfl (
  fq_at (ρ' := [some (.im (eS v_figures)), none, none]) rfl (st_ret trivial (s_bi (w_cons (Sim.w (s_comp0 (ρ' := fun y4 => [some (.im (eS v_figures)), some (.im (eI y4.1)), some (.im (eS y4.2))]) (i_en (s_rev (Sim.w (s_slot eS (v := v_figures) rfl)) o_revS) wk_S) (fun _ => rfl) (fun y4 => s_bin (Sim.w (s_bi (w_cons (Sim.w (s_slot eS (v := y4.2) rfl)) fun x => w_nil (o_intS x)))) (Sim.w (s_ix (Sim.w (s_tupT (e := eI) (l_cons (s_lit eI rfl) (l_cons (s_lit eI rfl) (l_nil))))) (Sim.w (s_bin (Sim.w (s_slot eI (v := y4.1) rfl)) (Sim.w (s_lit eI rfl)) o_mod)) o_ixT)) o_mulI))) fun x => w_nil (o_sumL x)))))
theorem sim_exchanged (N : Nat) (hN : 1 ≤ N) (v_figures : (List Nat)) (v_k : Int) : Sim eS (run tab N 4 [eS v_figures, eI v_k]) (p_exchanged v_figures v_k) := by
  obtain ⟨n, rfl⟩ : ∃ n, N = n + 1 := ⟨N - 1, by omega⟩
  exact fn_sim [some (.im (eS v_figures)), some (.im (eI v_k))] rfl rfl rfl (
  fq_at (ρ' := [some (.im (eS v_figures)), some (.im (eI v_k))]) rfl (st_ret trivial (s_bin (Sim.w (s_bin (Sim.w (s_bin (Sim.w (s_sl (Sim.w (s_slot eS (v := v_figures) rfl)) (b_omit) (b_int rfl (s_slot eI (v := v_k) rfl)) o_slS)) (Sim.w (s_ix (Sim.w (s_slot eS (v := v_figures) rfl)) (Sim.w (s_bin (Sim.w (s_slot eI (v := v_k) rfl)) (Sim.w (s_lit eI rfl)) o_addI)) o_ixS)) o_addS)) (Sim.w (s_ix (Sim.w (s_slot eS (v := v_figures) rfl)) (Sim.w (s_slot eI (v := v_k) rfl)) o_ixS)) o_addS)) (Sim.w (s_sl (Sim.w (s_slot eS (v := v_figures) rfl)) (b_int rfl (s_bin (Sim.w (s_slot eI (v := v_k) rfl)) (Sim.w (s_lit eI rfl)) o_addI)) (b_omit) o_slS)) o_addS)))
theorem sim_mod_check (N : Nat) (hN : 1 ≤ N) (v_values : (List Int)) (v_by : Int) : Sim eI (run tab N 6 [(eT eI) v_values, eI v_by]) (p_mod_check v_values v_by) := by
  obtain ⟨n, rfl⟩ : ∃ n, N = n + 1 := ⟨N - 1, by omega⟩
  exact fn_sim [some (.im ((eT eI) v_values)), some (.im (eI v_by)), none, none] rfl rfl rfl (
  fq_at (ρ' := [some (.im ((eT eI) v_values)), some (.im (eI v_by)), none, none]) rfl (st_ret trivial (s_bin (Sim.w (s_bin (Sim.w (s_ix (Sim.w (s_slot (eT eI) (v := v_values) rfl)) (Sim.w (s_lit eI rfl)) o_ixT)) (Sim.w (s_bi (w_cons (Sim.w (s_comp0 (ρ' := fun y5 => [some (.im ((eT eI) v_values)), some (.im (eI v_by)), some (.im (eI y5.1)), some (.im (eI y5.2))]) (i_en (s_slot (eT eI) (v := v_values) rfl) wk_T) (fun _ => rfl) (fun y5 => s_bin (Sim.w (s_slot eI (v := y5.1) rfl)) (Sim.w (s_slot eI (v := y5.2) rfl)) o_mulI))) fun x => w_nil (o_sumL x)))) o_addI)) (Sim.w (s_slot eI (v := v_by) rfl)) o_mod)))
theorem sim__law_cell (N : Nat) (hN : 1 ≤ N) (v_script : (List Int)) (v_k : Int) : Sim eI (run tab N 7 [eZ v_script, eI v_k]) (h_cell v_script v_k) := by
  obtain ⟨n, rfl⟩ : ∃ n, N = n + 1 := ⟨N - 1, by omega⟩
  exact fn_sim [some (.im (eZ v_script)), some (.im (eI v_k))] rfl rfl rfl (
  fq_at (ρ' := [some (.im (eZ v_script)), some (.im (eI v_k))]) rfl (st_ite t_B trivial (Sim.w (s_cmp (Sim.w (s_slot eI (v := v_k) rfl)) (Sim.w (s_bi (w_cons (Sim.w (s_slot eZ (v := v_script) rfl)) fun x => w_nil (o_lenZ x)))) o_ltI)) (
  ap_cons (fq_at (ρ' := [some (.im (eZ v_script)), some (.im (eI v_k))]) rfl (st_ret trivial (s_ix (Sim.w (s_slot eZ (v := v_script) rfl)) (Sim.w (s_slot eI (v := v_k) rfl)) o_ixZ)))) (
  ap_nil (fq_at (ρ' := [some (.im (eZ v_script)), some (.im (eI v_k))]) rfl (st_ret trivial (s_lit eI rfl))))))
theorem sim__law_mix (N : Nat) (hN : 1 ≤ N) (v_cell_here : Int) (v_prime : Int) (v_many : Int) : Sim eI (run tab N 8 [eI v_cell_here, eI v_prime, eI v_many]) (h_mix v_cell_here v_prime v_many) := by
  obtain ⟨n, rfl⟩ : ∃ n, N = n + 1 := ⟨N - 1, by omega⟩
  exact fn_sim [some (.im (eI v_cell_here)), some (.im (eI v_prime)), some (.im (eI v_many)), none] rfl rfl rfl (
  fq_at (ρ' := [some (.im (eI v_cell_here)), some (.im (eI v_prime)), some (.im (eI v_many)), none]) rfl (st_set (e := eI) trivial (s_bin (Sim.w (s_bin (Sim.w (s_slot eI (v := v_cell_here) rfl)) (Sim.w (s_lit eI rfl)) o_mulI)) (Sim.w (s_slot eI (v := v_prime) rfl)) o_mod) fun v_blend_5 =>
  fq_at (ρ' := [some (.im (eI v_cell_here)), some (.im (eI v_prime)), some (.im (eI v_many)), some (.im (eI v_blend_5))]) rfl (st_ret trivial (s_bin (Sim.w (s_bin (Sim.w (s_bin (Sim.w (s_slot eI (v := v_blend_5) rfl)) (Sim.w (s_bin (Sim.w (s_slot eI (v := v_blend_5) rfl)) (Sim.w (s_lit eI rfl)) o_addI)) o_mulI)) (Sim.w (s_slot eI (v := v_prime) rfl)) o_mod)) (Sim.w (s_slot eI (v := v_many) rfl)) o_mod))))
theorem sim__law_sum (N : Nat) (hN : 1 ≤ N) (v_figures_here : (List Nat)) : Sim eI (run tab N 11 [eS v_figures_here]) (h_sum v_figures_here) := by
  obtain ⟨n, rfl⟩ : ∃ n, N = n + 1 := ⟨N - 1, by omega⟩
  exact fn_sim [some (.im (eS v_figures_here)), none, none, none] rfl rfl rfl (
  fq_at (ρ' := [some (.im (eS v_figures_here)), none, none, none]) rfl (st_set (e := eI) trivial (s_lit eI rfl) fun v_gathered_1 =>
  fq_at (ρ' := [some (.im (eS v_figures_here)), some (.im (eI v_gathered_1)), none, none]) rfl (st_for (e := eI) (ρ1 := fun a6 s4 j5 => [some (.im (eS v_figures_here)), some (.im (eI s4)), some (.im (eI a6)), j5.2]) (fun (s4 : (Int)) (j5 : (Option Sl × Option Sl)) => ([some (.im (eS v_figures_here)), some (.im (eI s4)), j5.1, j5.2] : En)) v_gathered_1 (none, none) rfl (i_rng1 (s_bi (w_cons (Sim.w (s_slot eS (v := v_figures_here) rfl)) fun x => w_nil (o_lenS x)))) (fun _ _ _ => rfl) (fun a6 s4 j5 =>
  fq_at (ρ' := [some (.im (eS v_figures_here)), some (.im (eI s4)), some (.im (eI a6)), j5.2]) rfl (st_set (e := eI) trivial (s_me (Sim.w (s_lit eS rfl)) (fun _ => mk_S _ _) fun x14 => w_cons (Sim.w (s_ix (Sim.w (s_slot eS (v := v_figures_here) rfl)) (Sim.w (s_bin (Sim.w (s_bin (Sim.w (s_bi (w_cons (Sim.w (s_slot eS (v := v_figures_here) rfl)) fun x => w_nil (o_lenS x)))) (Sim.w (s_lit eI rfl)) o_subI)) (Sim.w (s_slot eI (v := a6) rfl)) o_subI)) o_ixS)) fun x15 => w_nil (o_index x14 x15)) fun v_figure_16 =>
  fq_at (ρ' := [some (.im (eS v_figures_here)), some (.im (eI s4)), some (.im (eI a6)), some (.im (eI v_figure_16))]) rfl (st_set (e := eI) trivial (s_bin (Sim.w (s_slot eI (v := s4) rfl)) (Sim.w (s_bin (Sim.w (s_slot eI (v := v_figure_16) rfl)) (Sim.w (s_ix (Sim.w (s_tupT (e := eI) (l_cons (s_lit eI rfl) (l_cons (s_lit eI rfl) (l_nil))))) (Sim.w (s_bin (Sim.w (s_slot eI (v := a6) rfl)) (Sim.w (s_lit eI rfl)) o_mod)) o_ixT)) o_mulI)) o_addI) fun v_gathered_29 =>
  fq_at (ρ' := [some (.im (eS v_figures_here)), some (.im (eI v_gathered_29)), some (.im (eI a6)), some (.im (eI v_figure_16))]) rfl (st_end (some (.im (eI a6)), some (.im (eI v_figure_16))) rfl)))) (fun s30 j31 =>
  fq_at (ρ' := [some (.im (eS v_figures_here)), some (.im (eI s30)), j31.1, j31.2]) rfl (st_ret trivial (s_slot eI (v := s30) rfl))))))
theorem sim_check_of (N : Nat) (hN : 2 ≤ N) (v_figures : (List Nat)) : Sim eS (run tab N 1 [eS v_figures]) (p_check_of v_figures) := by
  obtain ⟨n, rfl⟩ : ∃ n, N = n + 1 := ⟨N - 1, by omega⟩
  have hh1 : 1 ≤ n := by omega
  exact fn_sim [some (.im (eS v_figures))] rfl rfl rfl (
  fq_at (ρ' := [some (.im (eS v_figures))]) rfl (st_ret trivial (s_ix (Sim.w (s_glob eS (v := c_FIGURES) rfl)) (Sim.w (s_bin (Sim.w (s_bin (Sim.w (s_lit eI rfl)) (Sim.w (s_call (a_cons (s_bin (Sim.w (s_slot eS (v := v_figures) rfl)) (Sim.w (s_lit eS rfl)) o_addS) fun x3 => a_nil (sim_weighed n hh1 x3)))) o_subI)) (Sim.w (s_lit eI rfl)) o_mod)) o_ixS)))
theorem sim_fits (N : Nat) (hN : 2 ≤ N) (v_figures : (List Nat)) : Sim eB (run tab N 2 [eS v_figures]) (p_fits v_figures) := by
  obtain ⟨n, rfl⟩ : ∃ n, N = n + 1 := ⟨N - 1, by omega⟩
  have hh1 : 1 ≤ n := by omega
  exact fn_sim [some (.im (eS v_figures))] rfl rfl rfl (
  fq_at (ρ' := [some (.im (eS v_figures))]) rfl (st_ret trivial (s_cmp (Sim.w (s_bin (Sim.w (s_call (a_cons (s_slot eS (v := v_figures) rfl) fun x1 => a_nil (sim_weighed n hh1 x1)))) (Sim.w (s_lit eI rfl)) o_mod)) (Sim.w (s_lit eI rfl)) (o_eq eqf_I rfl))))
theorem sim__law_figures (N : Nat) (hN : 2 ≤ N) (v_cell_here : Int) (v_many : Int) : Sim eS (run tab N 10 [eI v_cell_here, eI v_many]) (h_figures v_cell_here v_many) := by
  obtain ⟨n, rfl⟩ : ∃ n, N = n + 1 := ⟨N - 1, by omega⟩
  have hh1 : 1 ≤ n := by omega
  exact fn_sim [some (.im (eI v_cell_here)), some (.im (eI v_many)), none] rfl rfl rfl (
  fq_at (ρ' := [some (.im (eI v_cell_here)), some (.im (eI v_many)), none]) rfl (st_ret trivial (s_me (Sim.w (s_lit eS rfl)) (fun _ => mk_S _ _) fun x13 => w_cons (Sim.w (s_comp0 (ρ' := fun y2 => [some (.im (eI v_cell_here)), some (.im (eI v_many)), some (.im (eI y2))]) (i_rng1 (s_slot eI (v := v_many) rfl)) (fun _ => rfl) (fun y2 => s_ix (Sim.w (s_lit eS rfl)) (Sim.w (s_call (a_cons (s_bin (Sim.w (s_slot eI (v := v_cell_here) rfl)) (Sim.w (s_bin (Sim.w (s_lit eI rfl)) (Sim.w (s_slot eI (v := y2) rfl)) o_mulI)) o_addI) fun x7 => a_cons (s_lit eI rfl) fun x8 => a_cons (s_lit eI rfl) fun x9 => a_nil (sim__law_mix n hh1 x7 x8 x9)))) o_ixS))) fun x14 => w_nil (o_joinL x13 x14))))
theorem sim__law_check (N : Nat) (hN : 2 ≤ N) (v_figures_here : (List Nat)) : Sim eS (run tab N 12 [eS v_figures_here]) (h_check v_figures_here) := by
  obtain ⟨n, rfl⟩ : ∃ n, N = n + 1 := ⟨N - 1, by omega⟩
  have hh1 : 1 ≤ n := by omega
  exact fn_sim [some (.im (eS v_figures_here)), none] rfl rfl rfl (
  fq_at (ρ' := [some (.im (eS v_figures_here)), none]) rfl (st_ret trivial (s_ix (Sim.w (s_comp (ρ' := fun y2 => [some (.im (eS v_figures_here)), some (.im (eS y2))]) (i_val (s_lit eS rfl) wk_S) (fun _ => rfl) (fun y2 => s_cmp (Sim.w (s_bin (Sim.w (s_call (a_cons (s_bin (Sim.w (s_slot eS (v := v_figures_here) rfl)) (Sim.w (s_slot eS (v := y2) rfl)) o_addS) fun x6 => a_nil (sim__law_sum n hh1 x6)))) (Sim.w (s_lit eI rfl)) o_mod)) (Sim.w (s_lit eI rfl)) (o_eq eqf_I rfl)) (fun y2 => s_slot eS (v := y2) rfl))) (Sim.w (s_lit eI rfl)) o_ixL)))
theorem sim_lacking (N : Nat) (hN : 3 ≤ N) (v_text : (List Nat)) : Sim eS (run tab N 17 [eS v_text]) (p_lacking v_text) := lak_sim (k := 3) (f := 2) (r := 2) (T := tab) rfl rfl rfl rfl rfl (fun n h x => sim_fits n h x) N hN v_text
theorem sim_silent (N : Nat) (hN : 3 ≤ N) (v_figures : (List Nat)) : Sim (eT eI) (run tab N 5 [eS v_figures]) (p_silent v_figures) := by
  obtain ⟨n, rfl⟩ : ∃ n, N = n + 1 := ⟨N - 1, by omega⟩
  have hh1 : 1 ≤ n := by omega
  have hh2 : 2 ≤ n := by omega
  exact fn_sim [some (.im (eS v_figures)), none, none] rfl rfl rfl (
  fq_at (ρ' := [some (.im (eS v_figures)), none, none]) rfl (st_setM (e := eI) trivial (s_lstL (e := eI) (l_nil)) fun v_found_1 =>
  fq_at (ρ' := [some (.im (eS v_figures)), some (.mu (v_found_1.map eI)), none]) rfl (st_for (e := eI) (ρ1 := fun a8 s6 j7 => [some (.im (eS v_figures)), some (.mu (s6.map eI)), some (.im (eI a8))]) (fun (s6 : ((List Int))) (j7 : (Option Sl)) => ([some (.im (eS v_figures)), some (.mu (s6.map eI)), j7] : En)) v_found_1 none rfl (i_rng1 (s_bin (Sim.w (s_bi (w_cons (Sim.w (s_slot eS (v := v_figures) rfl)) fun x => w_nil (o_lenS x)))) (Sim.w (s_lit eI rfl)) o_subI)) (fun _ _ _ => rfl) (fun a8 s6 j7 =>
  fq_at (ρ' := [some (.im (eS v_figures)), some (.mu (s6.map eI)), some (.im (eI a8))]) rfl (st_ite t_B trivial (Sim.w (s_and (Sim.w (s_cmp (Sim.w (s_ix (Sim.w (s_slot eS (v := v_figures) rfl)) (Sim.w (s_slot eI (v := a8) rfl)) o_ixS)) (Sim.w (s_ix (Sim.w (s_slot eS (v := v_figures) rfl)) (Sim.w (s_bin (Sim.w (s_slot eI (v := a8) rfl)) (Sim.w (s_lit eI rfl)) o_addI)) o_ixS)) (o_ne eqf_S rfl))) (s_cmp (Sim.w (s_call (a_cons (s_call (a_cons (s_slot eS (v := v_figures) rfl) fun x17 => a_cons (s_slot eI (v := a8) rfl) fun x18 => a_nil (sim_exchanged n hh1 x17 x18))) fun x19 => a_nil (sim_fits n hh2 x19)))) (Sim.w (s_call (a_cons (s_slot eS (v := v_figures) rfl) fun x20 => a_nil (sim_fits n hh2 x20)))) (o_eq eqf_B rfl)))) (
  ap_cons (fq_at (ρ' := [some (.im (eS v_figures)), some (.mu (s6.map eI)), some (.im (eI a8))]) rfl (st_app (e := eI) (xs := s6) (K' := fun v_found_24 =>
  M.ok v_found_24) rfl trivial (s_slot eI (v := a8) rfl) fun v_found_24 =>
  ap_nil (fq_at (ρ' := [some (.im (eS v_figures)), some (.mu (v_found_24.map eI)), some (.im (eI a8))]) rfl (st_end (some (.im (eI a8))) rfl))))) (
  ap_nil (fq_at (ρ' := [some (.im (eS v_figures)), some (.mu (s6.map eI)), some (.im (eI a8))]) rfl (st_end (some (.im (eI a8))) rfl))))) (fun s27 j28 =>
  fq_at (ρ' := [some (.im (eS v_figures)), some (.mu (s27.map eI)), j28]) rfl (st_ret trivial (s_bi (w_cons (s_slotM eI (v := s27) rfl) fun x => w_nil (o_tupL x))))))))
theorem sim_law (N : Nat) (hN : 9 ≤ N) (v_script : (List Int)) : Sim eB (run tab N 13 [eZ v_script]) (l_law v_script) := by
  obtain ⟨n, rfl⟩ : ∃ n, N = n + 1 := ⟨N - 1, by omega⟩
  have hh1 : 1 ≤ n := by omega
  have hh2 : 2 ≤ n := by omega
  have hh3 : 3 ≤ n := by omega
  have hh4 : 4 ≤ n := by omega
  have hh5 : 5 ≤ n := by omega
  have hh6 : 6 ≤ n := by omega
  have hh7 : 7 ≤ n := by omega
  have hh8 : 8 ≤ n := by omega
  exact fn_sim [some (.im (eZ v_script)), none, none, none, none, none, none, none, none, none, none, none, none, none, none, none, none] rfl rfl rfl (
  fq_at (ρ' := [some (.im (eZ v_script)), none, none, none, none, none, none, none, none, none, none, none, none, none, none, none, none]) rfl (st_forR (e := eI) (er := eB) (K2 := (fun a => a)) (ρ1 := fun a4 s2 j3 => [some (.im (eZ v_script)), some (.im (eI a4)), j3.2.1, j3.2.2.1, j3.2.2.2.1, j3.2.2.2.2.1, j3.2.2.2.2.2.1, j3.2.2.2.2.2.2.1, j3.2.2.2.2.2.2.2.1, j3.2.2.2.2.2.2.2.2.1, j3.2.2.2.2.2.2.2.2.2.1, j3.2.2.2.2.2.2.2.2.2.2.1, j3.2.2.2.2.2.2.2.2.2.2.2.1, j3.2.2.2.2.2.2.2.2.2.2.2.2.1, j3.2.2.2.2.2.2.2.2.2.2.2.2.2.1, j3.2.2.2.2.2.2.2.2.2.2.2.2.2.2, none]) (fun (s2 : Unit) (j3 : (Option Sl × Option Sl × Option Sl × Option Sl × Option Sl × Option Sl × Option Sl × Option Sl × Option Sl × Option Sl × Option Sl × Option Sl × Option Sl × Option Sl × Option Sl)) => ([some (.im (eZ v_script)), j3.1, j3.2.1, j3.2.2.1, j3.2.2.2.1, j3.2.2.2.2.1, j3.2.2.2.2.2.1, j3.2.2.2.2.2.2.1, j3.2.2.2.2.2.2.2.1, j3.2.2.2.2.2.2.2.2.1, j3.2.2.2.2.2.2.2.2.2.1, j3.2.2.2.2.2.2.2.2.2.2.1, j3.2.2.2.2.2.2.2.2.2.2.2.1, j3.2.2.2.2.2.2.2.2.2.2.2.2.1, j3.2.2.2.2.2.2.2.2.2.2.2.2.2.1, j3.2.2.2.2.2.2.2.2.2.2.2.2.2.2, none] : En)) () (none, none, none, none, none, none, none, none, none, none, none, none, none, none, none) rfl (i_rng1 (s_lit eI rfl)) (fun _ _ _ => rfl) (fun a4 s2 j3 =>
  fq_at (ρ' := [some (.im (eZ v_script)), some (.im (eI a4)), j3.2.1, j3.2.2.1, j3.2.2.2.1, j3.2.2.2.2.1, j3.2.2.2.2.2.1, j3.2.2.2.2.2.2.1, j3.2.2.2.2.2.2.2.1, j3.2.2.2.2.2.2.2.2.1, j3.2.2.2.2.2.2.2.2.2.1, j3.2.2.2.2.2.2.2.2.2.2.1, j3.2.2.2.2.2.2.2.2.2.2.2.1, j3.2.2.2.2.2.2.2.2.2.2.2.2.1, j3.2.2.2.2.2.2.2.2.2.2.2.2.2.1, j3.2.2.2.2.2.2.2.2.2.2.2.2.2.2, none]) rfl (st_set (e := eI) trivial (s_bin (Sim.w (s_call (a_cons (s_slot eZ (v := v_script) rfl) fun x7 => a_cons (s_bin (Sim.w (s_slot eI (v := a4) rfl)) (Sim.w (s_lit eI rfl)) o_mod) fun x8 => a_nil (sim__law_cell n hh1 x7 x8)))) (Sim.w (s_bin (Sim.w (s_lit eI rfl)) (Sim.w (s_slot eI (v := a4) rfl)) o_mulI)) o_addI) fun v_cell_here_13 =>
  fq_at (ρ' := [some (.im (eZ v_script)), some (.im (eI a4)), some (.im (eI v_cell_here_13)), j3.2.2.1, j3.2.2.2.1, j3.2.2.2.2.1, j3.2.2.2.2.2.1, j3.2.2.2.2.2.2.1, j3.2.2.2.2.2.2.2.1, j3.2.2.2.2.2.2.2.2.1, j3.2.2.2.2.2.2.2.2.2.1, j3.2.2.2.2.2.2.2.2.2.2.1, j3.2.2.2.2.2.2.2.2.2.2.2.1, j3.2.2.2.2.2.2.2.2.2.2.2.2.1, j3.2.2.2.2.2.2.2.2.2.2.2.2.2.1, j3.2.2.2.2.2.2.2.2.2.2.2.2.2.2, none]) rfl (st_set (e := eS) trivial (s_call (a_cons (s_slot eI (v := v_cell_here_13) rfl) fun x19 => a_cons (s_bin (Sim.w (s_lit eI rfl)) (Sim.w (s_call (a_cons (s_slot eI (v := v_cell_here_13) rfl) fun x14 => a_cons (s_lit eI rfl) fun x15 => a_cons (s_lit eI rfl) fun x16 => a_nil (sim__law_mix n hh1 x14 x15 x16)))) o_addI) fun x20 => a_nil (sim__law_figures n hh2 x19 x20))) fun v_figures_here_21 =>
  fq_at (ρ' := [some (.im (eZ v_script)), some (.im (eI a4)), some (.im (eI v_cell_here_13)), some (.im (eS v_figures_here_21)), j3.2.2.2.1, j3.2.2.2.2.1, j3.2.2.2.2.2.1, j3.2.2.2.2.2.2.1, j3.2.2.2.2.2.2.2.1, j3.2.2.2.2.2.2.2.2.1, j3.2.2.2.2.2.2.2.2.2.1, j3.2.2.2.2.2.2.2.2.2.2.1, j3.2.2.2.2.2.2.2.2.2.2.2.1, j3.2.2.2.2.2.2.2.2.2.2.2.2.1, j3.2.2.2.2.2.2.2.2.2.2.2.2.2.1, j3.2.2.2.2.2.2.2.2.2.2.2.2.2.2, none]) rfl (st_set (e := eS) trivial (s_bin (Sim.w (s_slot eS (v := v_figures_here_21) rfl)) (Sim.w (s_call (a_cons (s_slot eS (v := v_figures_here_21) rfl) fun x22 => a_nil (sim__law_check n hh2 x22)))) o_addS) fun v_full_25 =>
  fq_at (ρ' := [some (.im (eZ v_script)), some (.im (eI a4)), some (.im (eI v_cell_here_13)), some (.im (eS v_figures_here_21)), some (.im (eS v_full_25)), j3.2.2.2.2.1, j3.2.2.2.2.2.1, j3.2.2.2.2.2.2.1, j3.2.2.2.2.2.2.2.1, j3.2.2.2.2.2.2.2.2.1, j3.2.2.2.2.2.2.2.2.2.1, j3.2.2.2.2.2.2.2.2.2.2.1, j3.2.2.2.2.2.2.2.2.2.2.2.1, j3.2.2.2.2.2.2.2.2.2.2.2.2.1, j3.2.2.2.2.2.2.2.2.2.2.2.2.2.1, j3.2.2.2.2.2.2.2.2.2.2.2.2.2.2, none]) rfl (st_ite t_B trivial (Sim.w (s_notT t_B (Sim.w (s_call (a_cons (Sim.dyn (s_tupP (e2 := (eP eS eB)) (a_cons (s_call (a_cons (s_slot eS (v := v_figures_here_21) rfl) fun x26 => a_nil (sim_check_of n hh2 x26))) fun x28 => a_cons (s_call (a_cons (s_slot eS (v := v_full_25) rfl) fun x27 => a_nil (sim_fits n hh2 x27))) fun x29 => a_nil rfl))) fun x33 => a_cons (Sim.dyn (s_tupP (e2 := (eP eS eB)) (a_cons (s_call (a_cons (s_slot eS (v := v_figures_here_21) rfl) fun x30 => a_nil (sim__law_check n hh2 x30))) fun x31 => a_cons (s_lit eB rfl) fun x32 => a_nil rfl))) fun x34 => a_nil (sim__law_same n hh8 x33 x34)))))) (
  ap_cons (fq_at (ρ' := [some (.im (eZ v_script)), some (.im (eI a4)), some (.im (eI v_cell_here_13)), some (.im (eS v_figures_here_21)), some (.im (eS v_full_25)), j3.2.2.2.2.1, j3.2.2.2.2.2.1, j3.2.2.2.2.2.2.1, j3.2.2.2.2.2.2.2.1, j3.2.2.2.2.2.2.2.2.1, j3.2.2.2.2.2.2.2.2.2.1, j3.2.2.2.2.2.2.2.2.2.2.1, j3.2.2.2.2.2.2.2.2.2.2.2.1, j3.2.2.2.2.2.2.2.2.2.2.2.2.1, j3.2.2.2.2.2.2.2.2.2.2.2.2.2.1, j3.2.2.2.2.2.2.2.2.2.2.2.2.2.2, none]) rfl (st_retL trivial (s_lit eB rfl)))) (
  ap_nil (fq_at (ρ' := [some (.im (eZ v_script)), some (.im (eI a4)), some (.im (eI v_cell_here_13)), some (.im (eS v_figures_here_21)), some (.im (eS v_full_25)), j3.2.2.2.2.1, j3.2.2.2.2.2.1, j3.2.2.2.2.2.2.1, j3.2.2.2.2.2.2.2.1, j3.2.2.2.2.2.2.2.2.1, j3.2.2.2.2.2.2.2.2.2.1, j3.2.2.2.2.2.2.2.2.2.2.1, j3.2.2.2.2.2.2.2.2.2.2.2.1, j3.2.2.2.2.2.2.2.2.2.2.2.2.1, j3.2.2.2.2.2.2.2.2.2.2.2.2.2.1, j3.2.2.2.2.2.2.2.2.2.2.2.2.2.2, none]) rfl (st_set (e := eS) trivial (s_call (a_cons (s_bin (Sim.w (s_call (a_cons (s_slot eZ (v := v_script) rfl) fun x234 => a_cons (s_lit eI rfl) fun x235 => a_nil (sim__law_cell n hh1 x234 x235)))) (Sim.w (s_bin (Sim.w (s_lit eI rfl)) (Sim.w (s_slot eI (v := a4) rfl)) o_mulI)) o_addI) fun x242 => a_cons (s_bin (Sim.w (s_lit eI rfl)) (Sim.w (s_slot eI (v := a4) rfl)) o_addI) fun x243 => a_nil (sim__law_figures n hh2 x242 x243))) fun v_near_244 =>
  fq_at (ρ' := [some (.im (eZ v_script)), some (.im (eI a4)), some (.im (eI v_cell_here_13)), some (.im (eS v_figures_here_21)), some (.im (eS v_full_25)), some (.im (eS v_near_244)), j3.2.2.2.2.2.1, j3.2.2.2.2.2.2.1, j3.2.2.2.2.2.2.2.1, j3.2.2.2.2.2.2.2.2.1, j3.2.2.2.2.2.2.2.2.2.1, j3.2.2.2.2.2.2.2.2.2.2.1, j3.2.2.2.2.2.2.2.2.2.2.2.1, j3.2.2.2.2.2.2.2.2.2.2.2.2.1, j3.2.2.2.2.2.2.2.2.2.2.2.2.2.1, j3.2.2.2.2.2.2.2.2.2.2.2.2.2.2, none]) rfl (st_forR (e := eS) (er := eB) (K2 := Stp.rt) (ρ1 := fun a252 s250 j251 => [some (.im (eZ v_script)), some (.im (eI a4)), some (.im (eI v_cell_here_13)), some (.im (eS v_figures_here_21)), some (.im (eS v_full_25)), some (.im (eS v_near_244)), some (.im (eS a252)), j3.2.2.2.2.2.2.1, j3.2.2.2.2.2.2.2.1, j251.2.1, j3.2.2.2.2.2.2.2.2.2.1, j251.2.2.1, j251.2.2.2.1, j251.2.2.2.2.1, j251.2.2.2.2.2.1, j251.2.2.2.2.2.2, none]) (fun (s250 : Unit) (j251 : (Option Sl × Option Sl × Option Sl × Option Sl × Option Sl × Option Sl × Option Sl)) => ([some (.im (eZ v_script)), some (.im (eI a4)), some (.im (eI v_cell_here_13)), some (.im (eS v_figures_here_21)), some (.im (eS v_full_25)), some (.im (eS v_near_244)), j251.1, j3.2.2.2.2.2.2.1, j3.2.2.2.2.2.2.2.1, j251.2.1, j3.2.2.2.2.2.2.2.2.2.1, j251.2.2.1, j251.2.2.2.1, j251.2.2.2.2.1, j251.2.2.2.2.2.1, j251.2.2.2.2.2.2, none] : En)) () (j3.2.2.2.2.2.1, j3.2.2.2.2.2.2.2.2.1, j3.2.2.2.2.2.2.2.2.2.2.1, j3.2.2.2.2.2.2.2.2.2.2.2.1, j3.2.2.2.2.2.2.2.2.2.2.2.2.1, j3.2.2.2.2.2.2.2.2.2.2.2.2.2.1, j3.2.2.2.2.2.2.2.2.2.2.2.2.2.2) rfl (i_val (s_tupT (e := eS) (l_cons (s_slot eS (v := v_full_25) rfl) (l_cons (s_slot eS (v := v_near_244) rfl) (l_nil)))) wk_T) (fun _ _ _ => rfl) (fun a252 s250 j251 =>
  fq_at (ρ' := [some (.im (eZ v_script)), some (.im (eI a4)), some (.im (eI v_cell_here_13)), some (.im (eS v_figures_here_21)), some (.im (eS v_full_25)), some (.im (eS v_near_244)), some (.im (eS a252)), j3.2.2.2.2.2.2.1, j3.2.2.2.2.2.2.2.1, j251.2.1, j3.2.2.2.2.2.2.2.2.2.1, j251.2.2.1, j251.2.2.2.1, j251.2.2.2.2.1, j251.2.2.2.2.2.1, j251.2.2.2.2.2.2, none]) rfl (st_ite t_B trivial (Sim.w (s_notT t_B (Sim.w (s_call (a_cons (Sim.dyn (s_call (a_cons (s_slot eS (v := a252) rfl) fun x253 => a_nil (sim_fits n hh2 x253)))) fun x259 => a_cons (Sim.dyn (s_cmp (Sim.w (s_bin (Sim.w (s_call (a_cons (s_slot eS (v := a252) rfl) fun x254 => a_nil (sim__law_sum n hh1 x254)))) (Sim.w (s_lit eI rfl)) o_mod)) (Sim.w (s_lit eI rfl)) (o_eq eqf_I rfl))) fun x260 => a_nil (sim__law_same n hh8 x259 x260)))))) (
  ap_cons (fq_at (ρ' := [some (.im (eZ v_script)), some (.im (eI a4)), some (.im (eI v_cell_here_13)), some (.im (eS v_figures_here_21)), some (.im (eS v_full_25)), some (.im (eS v_near_244)), some (.im (eS a252)), j3.2.2.2.2.2.2.1, j3.2.2.2.2.2.2.2.1, j251.2.1, j3.2.2.2.2.2.2.2.2.2.1, j251.2.2.1, j251.2.2.2.1, j251.2.2.2.2.1, j251.2.2.2.2.2.1, j251.2.2.2.2.2.2, none]) rfl (st_retL trivial (s_lit eB rfl)))) (
  ap_nil (fq_at (ρ' := [some (.im (eZ v_script)), some (.im (eI a4)), some (.im (eI v_cell_here_13)), some (.im (eS v_figures_here_21)), some (.im (eS v_full_25)), some (.im (eS v_near_244)), some (.im (eS a252)), j3.2.2.2.2.2.2.1, j3.2.2.2.2.2.2.2.1, j251.2.1, j3.2.2.2.2.2.2.2.2.2.1, j251.2.2.1, j251.2.2.2.1, j251.2.2.2.2.1, j251.2.2.2.2.2.1, j251.2.2.2.2.2.2, none]) rfl (st_set (e := eI) trivial (s_call (a_cons (s_slot eI (v := v_cell_here_13) rfl) fun x264 => a_cons (s_lit eI rfl) fun x265 => a_cons (s_bi (w_cons (Sim.w (s_slot eS (v := a252) rfl)) fun x => w_nil (o_lenS x))) fun x266 => a_nil (sim__law_mix n hh1 x264 x265 x266))) fun v_place_267 =>
  fq_at (ρ' := [some (.im (eZ v_script)), some (.im (eI a4)), some (.im (eI v_cell_here_13)), some (.im (eS v_figures_here_21)), some (.im (eS v_full_25)), some (.im (eS v_near_244)), some (.im (eS a252)), j3.2.2.2.2.2.2.1, j3.2.2.2.2.2.2.2.1, j251.2.1, j3.2.2.2.2.2.2.2.2.2.1, some (.im (eI v_place_267)), j251.2.2.2.1, j251.2.2.2.2.1, j251.2.2.2.2.2.1, j251.2.2.2.2.2.2, none]) rfl (st_set (e := eS) trivial (s_bin (Sim.w (s_bin (Sim.w (s_sl (Sim.w (s_slot eS (v := a252) rfl)) (b_omit) (b_int rfl (s_slot eI (v := v_place_267) rfl)) o_slS)) (Sim.w (s_lit eS rfl)) o_addS)) (Sim.w (s_sl (Sim.w (s_slot eS (v := a252) rfl)) (b_int rfl (s_bin (Sim.w (s_slot eI (v := v_place_267) rfl)) (Sim.w (s_lit eI rfl)) o_addI)) (b_omit) o_slS)) o_addS) fun v_gone_282 =>
  fq_at (ρ' := [some (.im (eZ v_script)), some (.im (eI a4)), some (.im (eI v_cell_here_13)), some (.im (eS v_figures_here_21)), some (.im (eS v_full_25)), some (.im (eS v_near_244)), some (.im (eS a252)), j3.2.2.2.2.2.2.1, j3.2.2.2.2.2.2.2.1, j251.2.1, j3.2.2.2.2.2.2.2.2.2.1, some (.im (eI v_place_267)), some (.im (eS v_gone_282)), j251.2.2.2.2.1, j251.2.2.2.2.2.1, j251.2.2.2.2.2.2, none]) rfl (st_set (e := (eL eS)) trivial (s_comp (ρ' := fun y284 => [some (.im (eZ v_script)), some (.im (eI a4)), some (.im (eI v_cell_here_13)), some (.im (eS v_figures_here_21)), some (.im (eS v_full_25)), some (.im (eS v_near_244)), some (.im (eS a252)), j3.2.2.2.2.2.2.1, j3.2.2.2.2.2.2.2.1, j251.2.1, j3.2.2.2.2.2.2.2.2.2.1, some (.im (eI v_place_267)), some (.im (eS v_gone_282)), j251.2.2.2.2.1, j251.2.2.2.2.2.1, j251.2.2.2.2.2.2, some (.im (eS y284))]) (i_val (s_lit eS rfl) wk_S) (fun _ => rfl) (fun y284 => s_cmp (Sim.w (s_bin (Sim.w (s_call (a_cons (s_me (Sim.w (s_slot eS (v := v_gone_282) rfl)) (fun _ => mk_S _ _) fun x286 => w_cons (Sim.w (s_lit eS rfl)) fun x287 => w_cons (Sim.w (s_slot eS (v := y284) rfl)) fun x288 => w_nil (o_repl x286 x287 x288)) fun x289 => a_nil (sim__law_sum n hh1 x289)))) (Sim.w (s_lit eI rfl)) o_mod)) (Sim.w (s_lit eI rfl)) (o_eq eqf_I rfl)) (fun y284 => s_slot eS (v := y284) rfl)) fun v_due_294 =>
  fq_at (ρ' := [some (.im (eZ v_script)), some (.im (eI a4)), some (.im (eI v_cell_here_13)), some (.im (eS v_figures_here_21)), some (.im (eS v_full_25)), some (.im (eS v_near_244)), some (.im (eS a252)), j3.2.2.2.2.2.2.1, j3.2.2.2.2.2.2.2.1, j251.2.1, j3.2.2.2.2.2.2.2.2.2.1, some (.im (eI v_place_267)), some (.im (eS v_gone_282)), some (.im ((eL eS) v_due_294)), j251.2.2.2.2.2.1, j251.2.2.2.2.2.2, none]) rfl (st_ite t_B trivial (Sim.w (s_or (Sim.w (s_notT t_B (Sim.w (s_call (a_cons (Sim.dyn (s_call (a_cons (s_slot eS (v := v_gone_282) rfl) fun x295 => a_nil (sim_lacking n hh3 x295)))) fun x298 => a_cons (Sim.dyn (s_ix (Sim.w (s_slot (eL eS) (v := v_due_294) rfl)) (Sim.w (s_lit eI rfl)) o_ixL)) fun x299 => a_nil (sim__law_same n hh8 x298 x299)))))) (s_cmp (Sim.w (s_bi (w_cons (Sim.w (s_slot (eL eS) (v := v_due_294) rfl)) fun x => w_nil (o_lenL x)))) (Sim.w (s_lit eI rfl)) (o_ne eqf_I rfl)))) (
  ap_cons (fq_at (ρ' := [some (.im (eZ v_script)), some (.im (eI a4)), some (.im (eI v_cell_here_13)), some (.im (eS v_figures_here_21)), some (.im (eS v_full_25)), some (.im (eS v_near_244)), some (.im (eS a252)), j3.2.2.2.2.2.2.1, j3.2.2.2.2.2.2.2.1, j251.2.1, j3.2.2.2.2.2.2.2.2.2.1, some (.im (eI v_place_267)), some (.im (eS v_gone_282)), some (.im ((eL eS) v_due_294)), j251.2.2.2.2.2.1, j251.2.2.2.2.2.2, none]) rfl (st_retL trivial (s_lit eB rfl)))) (
  ap_nil (fq_at (ρ' := [some (.im (eZ v_script)), some (.im (eI a4)), some (.im (eI v_cell_here_13)), some (.im (eS v_figures_here_21)), some (.im (eS v_full_25)), some (.im (eS v_near_244)), some (.im (eS a252)), j3.2.2.2.2.2.2.1, j3.2.2.2.2.2.2.2.1, j251.2.1, j3.2.2.2.2.2.2.2.2.2.1, some (.im (eI v_place_267)), some (.im (eS v_gone_282)), some (.im ((eL eS) v_due_294)), j251.2.2.2.2.2.1, j251.2.2.2.2.2.2, none]) rfl (st_setM (e := eI) trivial (s_lstL (e := eI) (l_nil)) fun v_quiet_306 =>
  fq_at (ρ' := [some (.im (eZ v_script)), some (.im (eI a4)), some (.im (eI v_cell_here_13)), some (.im (eS v_figures_here_21)), some (.im (eS v_full_25)), some (.im (eS v_near_244)), some (.im (eS a252)), j3.2.2.2.2.2.2.1, j3.2.2.2.2.2.2.2.1, j251.2.1, j3.2.2.2.2.2.2.2.2.2.1, some (.im (eI v_place_267)), some (.im (eS v_gone_282)), some (.im ((eL eS) v_due_294)), some (.mu (v_quiet_306.map eI)), j251.2.2.2.2.2.2, none]) rfl (st_for (e := eI) (ρ1 := fun a313 s311 j312 => [some (.im (eZ v_script)), some (.im (eI a4)), some (.im (eI v_cell_here_13)), some (.im (eS v_figures_here_21)), some (.im (eS v_full_25)), some (.im (eS v_near_244)), some (.im (eS a252)), j3.2.2.2.2.2.2.1, j3.2.2.2.2.2.2.2.1, some (.im (eI a313)), j3.2.2.2.2.2.2.2.2.2.1, some (.im (eI v_place_267)), some (.im (eS v_gone_282)), some (.im ((eL eS) v_due_294)), some (.mu (s311.map eI)), j312.2, none]) (fun (s311 : ((List Int))) (j312 : (Option Sl × Option Sl)) => ([some (.im (eZ v_script)), some (.im (eI a4)), some (.im (eI v_cell_here_13)), some (.im (eS v_figures_here_21)), some (.im (eS v_full_25)), some (.im (eS v_near_244)), some (.im (eS a252)), j3.2.2.2.2.2.2.1, j3.2.2.2.2.2.2.2.1, j312.1, j3.2.2.2.2.2.2.2.2.2.1, some (.im (eI v_place_267)), some (.im (eS v_gone_282)), some (.im ((eL eS) v_due_294)), some (.mu (s311.map eI)), j312.2, none] : En)) v_quiet_306 (j251.2.1, j251.2.2.2.2.2.2) rfl (i_rng1 (s_bin (Sim.w (s_bi (w_cons (Sim.w (s_slot eS (v := a252) rfl)) fun x => w_nil (o_lenS x)))) (Sim.w (s_lit eI rfl)) o_subI)) (fun _ _ _ => rfl) (fun a313 s311 j312 =>
  fq_at (ρ' := [some (.im (eZ v_script)), some (.im (eI a4)), some (.im (eI v_cell_here_13)), some (.im (eS v_figures_here_21)), some (.im (eS v_full_25)), some (.im (eS v_near_244)), some (.im (eS a252)), j3.2.2.2.2.2.2.1, j3.2.2.2.2.2.2.2.1, some (.im (eI a313)), j3.2.2.2.2.2.2.2.2.2.1, some (.im (eI v_place_267)), some (.im (eS v_gone_282)), some (.im ((eL eS) v_due_294)), some (.mu (s311.map eI)), j312.2, none]) rfl (st_set (e := eS) trivial (s_bin (Sim.w (s_bin (Sim.w (s_bin (Sim.w (s_sl (Sim.w (s_slot eS (v := a252) rfl)) (b_omit) (b_int rfl (s_slot eI (v := a313) rfl)) o_slS)) (Sim.w (s_ix (Sim.w (s_slot eS (v := a252) rfl)) (Sim.w (s_bin (Sim.w (s_slot eI (v := a313) rfl)) (Sim.w (s_lit eI rfl)) o_addI)) o_ixS)) o_addS)) (Sim.w (s_ix (Sim.w (s_slot eS (v := a252) rfl)) (Sim.w (s_slot eI (v := a313) rfl)) o_ixS)) o_addS)) (Sim.w (s_sl (Sim.w (s_slot eS (v := a252) rfl)) (b_int rfl (s_bin (Sim.w (s_slot eI (v := a313) rfl)) (Sim.w (s_lit eI rfl)) o_addI)) (b_omit) o_slS)) o_addS) fun v_other_336 =>
  fq_at (ρ' := [some (.im (eZ v_script)), some (.im (eI a4)), some (.im (eI v_cell_here_13)), some (.im (eS v_figures_here_21)), some (.im (eS v_full_25)), some (.im (eS v_near_244)), some (.im (eS a252)), j3.2.2.2.2.2.2.1, j3.2.2.2.2.2.2.2.1, some (.im (eI a313)), j3.2.2.2.2.2.2.2.2.2.1, some (.im (eI v_place_267)), some (.im (eS v_gone_282)), some (.im ((eL eS) v_due_294)), some (.mu (s311.map eI)), some (.im (eS v_other_336)), none]) rfl (st_ite t_B trivial (Sim.w (s_and (Sim.w (s_cmp (Sim.w (s_slot eS (v := v_other_336) rfl)) (Sim.w (s_slot eS (v := a252) rfl)) (o_ne eqf_S rfl))) (s_cmp (Sim.w (s_cmp (Sim.w (s_bin (Sim.w (s_call (a_cons (s_slot eS (v := v_other_336) rfl) fun x339 => a_nil (sim__law_sum n hh1 x339)))) (Sim.w (s_lit eI rfl)) o_mod)) (Sim.w (s_lit eI rfl)) (o_eq eqf_I rfl))) (Sim.w (s_cmp (Sim.w (s_bin (Sim.w (s_call (a_cons (s_slot eS (v := a252) rfl) fun x344 => a_nil (sim__law_sum n hh1 x344)))) (Sim.w (s_lit eI rfl)) o_mod)) (Sim.w (s_lit eI rfl)) (o_eq eqf_I rfl))) (o_eq eqf_B rfl)))) (
  ap_cons (fq_at (ρ' := [some (.im (eZ v_script)), some (.im (eI a4)), some (.im (eI v_cell_here_13)), some (.im (eS v_figures_here_21)), some (.im (eS v_full_25)), some (.im (eS v_near_244)), some (.im (eS a252)), j3.2.2.2.2.2.2.1, j3.2.2.2.2.2.2.2.1, some (.im (eI a313)), j3.2.2.2.2.2.2.2.2.2.1, some (.im (eI v_place_267)), some (.im (eS v_gone_282)), some (.im ((eL eS) v_due_294)), some (.mu (s311.map eI)), some (.im (eS v_other_336)), none]) rfl (st_app (e := eI) (xs := s311) (K' := fun v_quiet_352 =>
  M.ok v_quiet_352) rfl trivial (s_slot eI (v := a313) rfl) fun v_quiet_352 =>
  ap_nil (fq_at (ρ' := [some (.im (eZ v_script)), some (.im (eI a4)), some (.im (eI v_cell_here_13)), some (.im (eS v_figures_here_21)), some (.im (eS v_full_25)), some (.im (eS v_near_244)), some (.im (eS a252)), j3.2.2.2.2.2.2.1, j3.2.2.2.2.2.2.2.1, some (.im (eI a313)), j3.2.2.2.2.2.2.2.2.2.1, some (.im (eI v_place_267)), some (.im (eS v_gone_282)), some (.im ((eL eS) v_due_294)), some (.mu (v_quiet_352.map eI)), some (.im (eS v_other_336)), none]) rfl (st_end (some (.im (eI a313)), some (.im (eS v_other_336))) rfl))))) (
  ap_nil (fq_at (ρ' := [some (.im (eZ v_script)), some (.im (eI a4)), some (.im (eI v_cell_here_13)), some (.im (eS v_figures_here_21)), some (.im (eS v_full_25)), some (.im (eS v_near_244)), some (.im (eS a252)), j3.2.2.2.2.2.2.1, j3.2.2.2.2.2.2.2.1, some (.im (eI a313)), j3.2.2.2.2.2.2.2.2.2.1, some (.im (eI v_place_267)), some (.im (eS v_gone_282)), some (.im ((eL eS) v_due_294)), some (.mu (s311.map eI)), some (.im (eS v_other_336)), none]) rfl (st_end (some (.im (eI a313)), some (.im (eS v_other_336))) rfl)))))) (fun s355 j356 =>
  fq_at (ρ' := [some (.im (eZ v_script)), some (.im (eI a4)), some (.im (eI v_cell_here_13)), some (.im (eS v_figures_here_21)), some (.im (eS v_full_25)), some (.im (eS v_near_244)), some (.im (eS a252)), j3.2.2.2.2.2.2.1, j3.2.2.2.2.2.2.2.1, j356.1, j3.2.2.2.2.2.2.2.2.2.1, some (.im (eI v_place_267)), some (.im (eS v_gone_282)), some (.im ((eL eS) v_due_294)), some (.mu (s355.map eI)), j356.2, none]) rfl (st_ite t_B trivial (Sim.w (s_notT t_B (Sim.w (s_call (a_cons (Sim.dyn (s_call (a_cons (s_slot eS (v := a252) rfl) fun x357 => a_nil (sim_silent n hh3 x357)))) fun x359 => a_cons (Sim.dyn (s_bi (w_cons (s_slotM eI (v := s355) rfl) fun x => w_nil (o_tupL x)))) fun x360 => a_nil (sim__law_same n hh8 x359 x360)))))) (
  ap_cons (fq_at (ρ' := [some (.im (eZ v_script)), some (.im (eI a4)), some (.im (eI v_cell_here_13)), some (.im (eS v_figures_here_21)), some (.im (eS v_full_25)), some (.im (eS v_near_244)), some (.im (eS a252)), j3.2.2.2.2.2.2.1, j3.2.2.2.2.2.2.2.1, j356.1, j3.2.2.2.2.2.2.2.2.2.1, some (.im (eI v_place_267)), some (.im (eS v_gone_282)), some (.im ((eL eS) v_due_294)), some (.mu (s355.map eI)), j356.2, none]) rfl (st_retL trivial (s_lit eB rfl)))) (
  ap_nil (fq_at (ρ' := [some (.im (eZ v_script)), some (.im (eI a4)), some (.im (eI v_cell_here_13)), some (.im (eS v_figures_here_21)), some (.im (eS v_full_25)), some (.im (eS v_near_244)), some (.im (eS a252)), j3.2.2.2.2.2.2.1, j3.2.2.2.2.2.2.2.1, j356.1, j3.2.2.2.2.2.2.2.2.2.1, some (.im (eI v_place_267)), some (.im (eS v_gone_282)), some (.im ((eL eS) v_due_294)), some (.mu (s355.map eI)), j356.2, none]) rfl (st_endL (some (.im (eS a252)), j356.1, some (.im (eI v_place_267)), some (.im (eS v_gone_282)), some (.im ((eL eS) v_due_294)), some (.mu (s355.map eI)), j356.2) rfl))))))))))))))))) (fun s367 j368 =>
  fq_at (ρ' := [some (.im (eZ v_script)), some (.im (eI a4)), some (.im (eI v_cell_here_13)), some (.im (eS v_figures_here_21)), some (.im (eS v_full_25)), some (.im (eS v_near_244)), j368.1, j3.2.2.2.2.2.2.1, j3.2.2.2.2.2.2.2.1, j368.2.1, j3.2.2.2.2.2.2.2.2.2.1, j368.2.2.1, j368.2.2.2.1, j368.2.2.2.2.1, j368.2.2.2.2.2.1, j368.2.2.2.2.2.2, none]) rfl (st_set (e := (eT eI)) trivial (s_bi (w_cons (Sim.w (s_comp0 (ρ' := fun y372 => [some (.im (eZ v_script)), some (.im (eI a4)), some (.im (eI v_cell_here_13)), some (.im (eS v_figures_here_21)), some (.im (eS v_full_25)), some (.im (eS v_near_244)), j368.1, j3.2.2.2.2.2.2.1, j3.2.2.2.2.2.2.2.1, some (.im (eI y372)), j3.2.2.2.2.2.2.2.2.2.1, j368.2.2.1, j368.2.2.2.1, j368.2.2.2.2.1, j368.2.2.2.2.2.1, j368.2.2.2.2.2.2, none]) (i_rng1 (s_bin (Sim.w (s_lit eI rfl)) (Sim.w (s_slot eI (v := a4) rfl)) o_addI)) (fun _ => rfl) (fun y372 => s_call (a_cons (s_bin (Sim.w (s_slot eI (v := v_cell_here_13) rfl)) (Sim.w (s_bin (Sim.w (s_lit eI rfl)) (Sim.w (s_slot eI (v := y372) rfl)) o_mulI)) o_addI) fun x377 => a_cons (s_lit eI rfl) fun x378 => a_cons (s_lit eI rfl) fun x379 => a_nil (sim__law_mix n hh1 x377 x378 x379))))) fun x => w_nil (o_tupL x))) fun v_values_382 =>
  fq_at (ρ' := [some (.im (eZ v_script)), some (.im (eI a4)), some (.im (eI v_cell_here_13)), some (.im (eS v_figures_here_21)), some (.im (eS v_full_25)), some (.im (eS v_near_244)), j368.1, some (.im ((eT eI) v_values_382)), j3.2.2.2.2.2.2.2.1, j368.2.1, j3.2.2.2.2.2.2.2.2.2.1, j368.2.2.1, j368.2.2.2.1, j368.2.2.2.2.1, j368.2.2.2.2.2.1, j368.2.2.2.2.2.2, none]) rfl (st_set (e := eI) trivial (s_ix (Sim.w (s_slot (eT eI) (v := v_values_382) rfl)) (Sim.w (s_lit eI rfl)) o_ixT) fun v_total_now_385 =>
  fq_at (ρ' := [some (.im (eZ v_script)), some (.im (eI a4)), some (.im (eI v_cell_here_13)), some (.im (eS v_figures_here_21)), some (.im (eS v_full_25)), some (.im (eS v_near_244)), j368.1, some (.im ((eT eI) v_values_382)), some (.im (eI v_total_now_385)), j368.2.1, j3.2.2.2.2.2.2.2.2.2.1, j368.2.2.1, j368.2.2.2.1, j368.2.2.2.2.1, j368.2.2.2.2.2.1, j368.2.2.2.2.2.2, none]) rfl (st_for (e := eI) (ρ1 := fun a391 s389 j390 => [some (.im (eZ v_script)), some (.im (eI a4)), some (.im (eI v_cell_here_13)), some (.im (eS v_figures_here_21)), some (.im (eS v_full_25)), some (.im (eS v_near_244)), j368.1, some (.im ((eT eI) v_values_382)), some (.im (eI s389)), some (.im (eI a391)), j3.2.2.2.2.2.2.2.2.2.1, j368.2.2.1, j368.2.2.2.1, j368.2.2.2.2.1, j368.2.2.2.2.2.1, j368.2.2.2.2.2.2, none]) (fun (s389 : (Int)) (j390 : (Option Sl)) => ([some (.im (eZ v_script)), some (.im (eI a4)), some (.im (eI v_cell_here_13)), some (.im (eS v_figures_here_21)), some (.im (eS v_full_25)), some (.im (eS v_near_244)), j368.1, some (.im ((eT eI) v_values_382)), some (.im (eI s389)), j390, j3.2.2.2.2.2.2.2.2.2.1, j368.2.2.1, j368.2.2.2.1, j368.2.2.2.2.1, j368.2.2.2.2.2.1, j368.2.2.2.2.2.2, none] : En)) v_total_now_385 j368.2.1 rfl (i_rng2 (s_lit eI rfl) (s_bi (w_cons (Sim.w (s_slot (eT eI) (v := v_values_382) rfl)) fun x => w_nil (o_lenT x)))) (fun _ _ _ => rfl) (fun a391 s389 j390 =>
  fq_at (ρ' := [some (.im (eZ v_script)), some (.im (eI a4)), some (.im (eI v_cell_here_13)), some (.im (eS v_figures_here_21)), some (.im (eS v_full_25)), some (.im (eS v_near_244)), j368.1, some (.im ((eT eI) v_values_382)), some (.im (eI s389)), some (.im (eI a391)), j3.2.2.2.2.2.2.2.2.2.1, j368.2.2.1, j368.2.2.2.1, j368.2.2.2.2.1, j368.2.2.2.2.2.1, j368.2.2.2.2.2.2, none]) rfl (st_set (e := eI) trivial (s_bin (Sim.w (s_slot eI (v := s389) rfl)) (Sim.w (s_bin (Sim.w (s_slot eI (v := a391) rfl)) (Sim.w (s_ix (Sim.w (s_slot (eT eI) (v := v_values_382) rfl)) (Sim.w (s_slot eI (v := a391) rfl)) o_ixT)) o_mulI)) o_addI) fun v_total_now_398 =>
  fq_at (ρ' := [some (.im (eZ v_script)), some (.im (eI a4)), some (.im (eI v_cell_here_13)), some (.im (eS v_figures_here_21)), some (.im (eS v_full_25)), some (.im (eS v_near_244)), j368.1, some (.im ((eT eI) v_values_382)), some (.im (eI v_total_now_398)), some (.im (eI a391)), j3.2.2.2.2.2.2.2.2.2.1, j368.2.2.1, j368.2.2.2.1, j368.2.2.2.2.1, j368.2.2.2.2.2.1, j368.2.2.2.2.2.2, none]) rfl (st_end (some (.im (eI a391))) rfl))) (fun s399 j400 =>
  fq_at (ρ' := [some (.im (eZ v_script)), some (.im (eI a4)), some (.im (eI v_cell_here_13)), some (.im (eS v_figures_here_21)), some (.im (eS v_full_25)), some (.im (eS v_near_244)), j368.1, some (.im ((eT eI) v_values_382)), some (.im (eI s399)), j400, j3.2.2.2.2.2.2.2.2.2.1, j368.2.2.1, j368.2.2.2.1, j368.2.2.2.2.1, j368.2.2.2.2.2.1, j368.2.2.2.2.2.2, none]) rfl (st_set (e := eI) trivial (s_bin (Sim.w (s_lit eI rfl)) (Sim.w (s_call (a_cons (s_slot eI (v := v_cell_here_13) rfl) fun x401 => a_cons (s_lit eI rfl) fun x402 => a_cons (s_lit eI rfl) fun x403 => a_nil (sim__law_mix n hh1 x401 x402 x403)))) o_addI) fun v_by_406 =>
  fq_at (ρ' := [some (.im (eZ v_script)), some (.im (eI a4)), some (.im (eI v_cell_here_13)), some (.im (eS v_figures_here_21)), some (.im (eS v_full_25)), some (.im (eS v_near_244)), j368.1, some (.im ((eT eI) v_values_382)), some (.im (eI s399)), j400, some (.im (eI v_by_406)), j368.2.2.1, j368.2.2.2.1, j368.2.2.2.2.1, j368.2.2.2.2.2.1, j368.2.2.2.2.2.2, none]) rfl (st_ite t_B trivial (Sim.w (s_notT t_B (Sim.w (s_call (a_cons (Sim.dyn (s_tupT (e := eI) (l_cons (s_call (a_cons (s_slot (eT eI) (v := v_values_382) rfl) fun x407 => a_cons (s_slot eI (v := v_by_406) rfl) fun x408 => a_nil (sim_mod_check n hh1 x407 x408))) (l_cons (s_call (a_cons (s_slot (eT eI) (v := v_values_382) rfl) fun x409 => a_cons (s_lit eI rfl) fun x410 => a_nil (sim_mod_check n hh1 x409 x410))) (l_nil))))) fun x423 => a_cons (Sim.dyn (s_tupT (e := eI) (l_cons (s_bin (Sim.w (s_slot eI (v := s399) rfl)) (Sim.w (s_slot eI (v := v_by_406) rfl)) o_mod) (l_cons (s_bin (Sim.w (s_slot eI (v := s399) rfl)) (Sim.w (s_lit eI rfl)) o_mod) (l_nil))))) fun x424 => a_nil (sim__law_same n hh8 x423 x424)))))) (
  ap_cons (fq_at (ρ' := [some (.im (eZ v_script)), some (.im (eI a4)), some (.im (eI v_cell_here_13)), some (.im (eS v_figures_here_21)), some (.im (eS v_full_25)), some (.im (eS v_near_244)), j368.1, some (.im ((eT eI) v_values_382)), some (.im (eI s399)), j400, some (.im (eI v_by_406)), j368.2.2.1, j368.2.2.2.1, j368.2.2.2.2.1, j368.2.2.2.2.2.1, j368.2.2.2.2.2.2, none]) rfl (st_retL trivial (s_lit eB rfl)))) (
  ap_nil (fq_at (ρ' := [some (.im (eZ v_script)), some (.im (eI a4)), some (.im (eI v_cell_here_13)), some (.im (eS v_figures_here_21)), some (.im (eS v_full_25)), some (.im (eS v_near_244)), j368.1, some (.im ((eT eI) v_values_382)), some (.im (eI s399)), j400, some (.im (eI v_by_406)), j368.2.2.1, j368.2.2.2.1, j368.2.2.2.2.1, j368.2.2.2.2.2.1, j368.2.2.2.2.2.2, none]) rfl (st_endL (some (.im (eI a4)), some (.im (eI v_cell_here_13)), some (.im (eS v_figures_here_21)), some (.im (eS v_full_25)), some (.im (eS v_near_244)), j368.1, some (.im ((eT eI) v_values_382)), some (.im (eI s399)), j400, some (.im (eI v_by_406)), j368.2.2.1, j368.2.2.2.1, j368.2.2.2.2.1, j368.2.2.2.2.2.1, j368.2.2.2.2.2.2) rfl)))))))))) (fun _ => rfl)))))))))) (fun s432 j433 =>
  fq_at (ρ' := [some (.im (eZ v_script)), j433.1, j433.2.1, j433.2.2.1, j433.2.2.2.1, j433.2.2.2.2.1, j433.2.2.2.2.2.1, j433.2.2.2.2.2.2.1, j433.2.2.2.2.2.2.2.1, j433.2.2.2.2.2.2.2.2.1, j433.2.2.2.2.2.2.2.2.2.1, j433.2.2.2.2.2.2.2.2.2.2.1, j433.2.2.2.2.2.2.2.2.2.2.2.1, j433.2.2.2.2.2.2.2.2.2.2.2.2.1, j433.2.2.2.2.2.2.2.2.2.2.2.2.2.1, j433.2.2.2.2.2.2.2.2.2.2.2.2.2.2, none]) rfl (st_ret trivial (s_and (Sim.w (s_cmp (Sim.w (s_call (a_cons (s_lit eS rfl) fun x441 => a_nil (sim_check_of n hh2 x441)))) (Sim.w (s_lit eS rfl)) (o_eq eqf_S rfl))) (s_cmp (Sim.w (s_call (a_cons (s_lit eS rfl) fun x444 => a_nil (sim_lacking n hh3 x444)))) (Sim.w (s_lit eS rfl)) (o_eq eqf_S rfl))))) (fun _ => rfl)))
end Law

namespace Law
open Dk Sh
theorem ok_bl (b : Bool) : okN 6 (eB b) = true := rfl
theorem ok_sb (s : List Nat) (b : Bool) : okN 6 (eP eS eB (s, b)) = true := rfl
theorem c4_ok {s : List Nat} (h : FigOk s) (h1 : 1 ≤ s.length) (hl : s.length ≤ 1000) : l_law_c4 s (silL s) = .ok (.nx ()) := by
  unfold l_law_c4
  simp only [M.bnd_ok, silent_ok h h1 hl]
  rw [show h_same (eT eI (silL s)) (eT eI (silL s)) = .ok true from same_refl rfl (ok_row 5 _)]
  simp only [M.bnd_ok, Bool.not_true, Bool.false_eq_true, if_false]
theorem sw_ne {s : List Nat} {k : Nat} (hk : k + 1 < s.length) : (sw s k = s) ↔ s.getD k 0 = s.getD (k + 1) 0 := by
  have e := split2 hk
  constructor
  · intro q
    have q2 : s.take k ++ (s.getD (k + 1) 0 :: s.getD k 0 :: s.drop (k + 2)) = s.take k ++ (s.getD k 0 :: s.getD (k + 1) 0 :: s.drop (k + 2)) := by
      rw [← e]; exact q
    have q3 := List.append_cancel_left q2
    exact (List.head_eq_of_cons_eq q3).symm
  · intro q
    unfold sw
    rw [← q]
    rw [← q] at e
    exact e.symm
theorem c3_ok {s : List Nat} (h : FigOk s) (h1 : 1 ≤ s.length) (hl : s.length ≤ 1000) : l_law_c3 s = .ok (.nx ()) := by
  unfold l_law_c3
  simp only [M.bnd_ok]
  rw [rngM_ok (by omega) (by omega)]
  simp only [M.bnd_ok]
  rw [show ((s.length : Int) - 1).toNat = s.length - 1 by omega]
  rw [fold_cat (g := fun a => if silP s a.toNat = true then [a] else []) (m := 1) (N := 100000) _ [] ?_ ?_ ?_]
  · simp only [M.bnd_ok]
    exact c4_ok h h1 hl
  · intro a ha s6 hs6
    obtain ⟨k, hk, rfl⟩ := List.mem_map.mp ha
    have hk := List.mem_range.mp hk
    have hk1 : k + 1 < s.length := by omega
    have e1 : ((k : Int) + 1) = ((k + 1 : Nat) : Int) := by omega
    have e2 : ((k : Int) + 2) = ((k + 2 : Nat) : Int) := by omega
    have l1 : (s.take k).length ≤ 1000 := by rw [List.length_take]; omega
    have l2 : (s.drop (k + 2)).length ≤ 1000 := by rw [List.length_drop]; omega
    simp only [M.bnd_ok, e1, e2, ixg hk1, ixg (show k < s.length by omega), cutT _ (show (0 : Int) ≤ (k : Int) by omega), cutF _ (show (0 : Int) ≤ ((k + 2 : Nat) : Int) by omega), Int.toNat_natCast]
    rw [catM_ok (by rw [List.length_singleton]; omega)]
    simp only [M.bnd_ok]
    rw [catM_ok (by rw [List.length_append, List.length_singleton, List.length_singleton]; omega)]
    simp only [M.bnd_ok]
    rw [catM_ok (by simp only [List.length_append, List.length_singleton]; omega)]
    simp only [M.bnd_ok]
    have e3 : s.take k ++ [s.getD (k + 1) 0] ++ [s.getD k 0] ++ s.drop (k + 2) = sw s k := by unfold sw; simp
    rw [e3, hsum_ok (sw_ok h hk1) (by rw [sw_len hk1]; omega), hsum_ok h (by omega)]
    simp only [M.bnd_ok, modM_ok (j := 10) (show (0 : Int) < 10 by decide)]
    have gl : M.grd (s6.length < lim) (M.ok (s6 ++ [(k : Int)])) = .ok (s6 ++ [(k : Int)]) := grd_t (by have e : lim = 16777216 := rfl; omega)
    have sp : silP s k = (!decide (sw s k = s) && decide (decide (wgt (sw s k) % 10 = 0) = decide (wgt s % 10 = 0))) := by
      unfold silP
      rw [show decide (sw s k = s) = decide (s.getD k 0 = s.getD (k + 1) 0) by rw [decide_eq_decide]; exact sw_ne hk1]
    rw [gl]
    show _ = M.ok (s6 ++ if silP s k = true then [(k : Int)] else [])
    rw [sp]
    by_cases q : sw s k = s
    · rw [if_neg (by rw [decide_eq_true q]; decide), decide_eq_true q, M.bnd_ok, if_neg Bool.false_ne_true]
      simp
    · rw [if_pos (by rw [decide_eq_false q]; rfl), decide_eq_false q, M.bnd_ok, Bool.not_false, Bool.true_and]
      by_cases q2 : decide (wgt (sw s k) % 10 = 0) = decide (wgt s % 10 = 0)
      · rw [decide_eq_true q2, if_pos rfl, if_pos rfl]
      · rw [decide_eq_false q2, if_neg Bool.false_ne_true, if_neg Bool.false_ne_true, List.append_nil]
  · intro a _
    split <;> simp
  · rw [List.length_map, List.length_range, List.length_nil]
    omega
/-- some figure makes them fit -/
theorem some_fit (a b : List Nat) : ∃ c, (48 ≤ c ∧ c ≤ 57) ∧ wgt (a ++ c :: b) % 10 = 0 := by
  rcases wt_or b.length with ⟨e, _⟩ | ⟨e, _⟩
  · refine ⟨48 + ((0 - (wgt b + wA (4 - 1) a.reverse)) % 10).toNat, by omega, ?_⟩
    rw [wgt_mid, e]
    generalize wA (4 - 1) a.reverse = A
    generalize wgt b = B
    omega
  · refine ⟨48 + ((7 * (0 - (wgt b + wA (4 - 3) a.reverse))) % 10).toNat, by omega, ?_⟩
    rw [wgt_mid, e]
    generalize wA (4 - 3) a.reverse = A
    generalize wgt b = B
    omega
theorem c2_ok {s : List Nat} (c : Int) (h : FigOk s) (h1 : 1 ≤ s.length) (hl : s.length ≤ 100) : l_law_c2 c s = .ok (.nx ()) := by
  have m0 := mixI_pos (c := c) (p := 9851) (m := (s.length : Int)) (by omega)
  have m1 := mixI_lt (c := c) (p := 9851) (m := (s.length : Int)) (by omega)
  unfold l_law_c2
  simp only [M.bnd_ok, mix_ok (c := c) (p := 9851) (m := (s.length : Int)) (by decide) (by decide) (by omega)]
  generalize hp : mixI c 9851 (s.length : Int) = p at m0 m1 ⊢
  obtain ⟨n, rfl⟩ : ∃ n : Nat, p = (n : Int) := ⟨p.toNat, by omega⟩
  have hn : n < s.length := by omega
  have e1 : ((n : Int) + 1) = ((n + 1 : Nat) : Int) := by omega
  have l1 : (s.take n).length ≤ 100 := by rw [List.length_take]; omega
  have l2 : (s.drop (n + 1)).length ≤ 100 := by rw [List.length_drop]; omega
  have ha := h.take n
  have hb := h.drop (n + 1)
  simp only [M.bnd_ok, e1, cutT _ (show (0 : Int) ≤ (n : Int) by omega), cutF _ (show (0 : Int) ≤ ((n + 1 : Nat) : Int) by omega), Int.toNat_natCast]
  rw [catM_ok (by rw [List.length_singleton]; omega)]
  simp only [M.bnd_ok]
  rw [catM_ok (by rw [List.length_append, List.length_singleton]; omega)]
  simp only [M.bnd_ok]
  generalize s.take n = a at *
  generalize s.drop (n + 1) = b at *
  have e3 : a ++ [63] ++ b = a ++ 63 :: b := by simp
  rw [e3]
  obtain ⟨d, hd, hw⟩ := some_fit a b
  have keep : ∀ (z : Nat) (t : List Nat), FigOk t → (t.map fun x => if x = 63 then z else x) = t := fun z t ht => by
    rw [List.map_congr_left (g := fun x => x) fun x hx => if_neg (by have := ht x hx; omega), List.map_id']
  have due : cmpM (fun y87 => (((replM (a ++ 63 :: b) [63] y87).bnd fun x92 => h_sum x92).bnd fun x93 => modM x93 10).bnd fun x95 => M.ok (decide (x95 = 0))) (fun y87 => M.ok y87) (chars [48, 49, 50, 51, 52, 53, 54, 55, 56, 57]) = .ok [[d]] := by
    refine try_ok (a := a) (b := b) (c := d) ha hb hd hw fun z hz => ?_
    have r : replM (a ++ 63 :: b) [63] [z] = .ok (a ++ z :: b) := by
      show M.grd _ _ = _
      rw [grd_t ⟨rfl, by rw [List.length_append, List.length_cons]; omega, by omega⟩, List.map_append, List.map_cons, keep _ a ha, keep _ b hb, if_pos rfl]
    rw [r]
    simp only [M.bnd_ok]
    rw [hsum_ok (mid_ok ha hb hz) (by rw [List.length_append, List.length_cons]; omega), fits_ok (mid_ok ha hb hz)]
    simp only [M.bnd_ok, modM_ok (j := 10) (show (0 : Int) < 10 by decide)]
  rw [due]
  have lk := lacking_ok ha hb hd (by omega) hw
  have ix : ixM [[d]] 0 = .ok [d] := ixM_at (by decide) rfl
  have l3 : (([[d]] : List (List Nat)).length : Int) = 1 := rfl
  simp only [M.bnd_ok, lk, ix, l3]
  rw [show h_same (eS [d]) (eS [d]) = .ok true from same_refl rfl (ok_str 6 _)]
  simp only [M.bnd_ok, decide_true, Bool.not_true, Bool.false_eq_true, if_false]
  exact c3_ok h h1 (by omega)
theorem pl_range : ∀ (t : List Int) (m : Nat), ((List.range t.length).map fun k => ((m + k : Nat) : Int) * t.getD k 0).sum = plS m t
  | [], _ => rfl
  | x :: t, m => by
    rw [List.length_cons, List.range_succ_eq_map, List.map_cons, List.sum_cons, List.map_map]
    show ((m + 0 : Nat) : Int) * x + _ = (m : Int) * x + plS (m + 1) t
    rw [Nat.add_zero, ← pl_range t (m + 1)]
    congr 2
    refine List.map_congr_left fun k _ => ?_
    show ((m + (k + 1) : Nat) : Int) * t.getD k 0 = ((m + 1 + k : Nat) : Int) * t.getD k 0
    rw [show m + (k + 1) = m + 1 + k by omega]
theorem c6_ok {vs : List Int} (c : Int) (h : 1 ≤ vs.length) (hl : vs.length ≤ 1000) : l_law_c6 c vs (modS vs) = .ok (.nx ()) := by
  have b0 := mixI_pos (c := c) (p := 9833) (show (0 : Int) < 200 by decide)
  unfold l_law_c6
  simp only [M.bnd_ok, mix_ok (c := c) (p := 9833) (m := 200) (by decide) (by decide) (by decide)]
  generalize mixI c 9833 200 = b at b0 ⊢
  rw [modc_ok h (by omega) (show (0 : Int) < 1 + b by omega), modc_ok h (by omega) (show (0 : Int) < 103 by decide)]
  simp only [M.bnd_ok, modM_ok (show (0 : Int) < 1 + b by omega), modM_ok (j := 103) (show (0 : Int) < 103 by decide)]
  rw [show h_same (eT eI [modS vs % (1 + b), modS vs % 103]) (eT eI [modS vs % (1 + b), modS vs % 103]) = .ok true from same_refl rfl (ok_row 5 _)]
  simp only [M.bnd_ok, Bool.not_true, Bool.false_eq_true, if_false]
theorem c5_ok (j : Nat) (hj : j < 16) (c : Int) : l_law_c5 (j : Int) c = .ok (.nx ()) := by
  unfold l_law_c5
  simp only [M.bnd_ok]
  rw [rngM_ok (by omega) (by omega)]
  simp only [M.bnd_ok]
  rw [mapM_ok (g := fun y => mixI (c + 5 * y) 9839 108) _ fun y hy => by
    rw [mulIM_l ⟨by decide, by decide⟩, M.bnd_ok, M.bnd_ok, mix_ok (by decide) (by decide) (by decide)], List.map_map]
  simp only [M.bnd_ok]
  generalize hvs : (List.range (1 + (j : Int)).toNat).map ((fun y => mixI (c + 5 * y) 9839 108) ∘ fun (k : Nat) => (k : Int)) = vs
  have hl : vs.length = 1 + j := by rw [← hvs, List.length_map, List.length_range]; omega
  obtain ⟨v, t, rfl⟩ : ∃ v t, vs = v :: t := by
    cases vs with
    | nil => rw [List.length_nil] at hl; omega
    | cons v t => exact ⟨v, t, rfl⟩
  have e0 : ixM (v :: t) 0 = .ok v := ixM_at (by decide) rfl
  have ht : t.length = j := by rw [List.length_cons] at hl; omega
  rw [e0]
  simp only [M.bnd_ok]
  rw [rng2M_ok (by decide) (by decide) (by omega) (by rw [hl]; omega)]
  simp only [M.bnd_ok]
  rw [show (((v :: t).length : Int) - 1).toNat = t.length by rw [List.length_cons]; omega]
  rw [fold_sum (v := fun a : Int => a * t.getD (a.toNat - 1) 0) _ v fun a ha s => by
    obtain ⟨k, hk, rfl⟩ := List.mem_map.mp ha
    have hk := List.mem_range.mp hk
    have e1 : ixM (v :: t) (1 + (k : Int)) = .ok (t.getD ((1 + (k : Int)).toNat - 1) 0) := by
      refine ixM_at (by omega) ?_
      rw [show (1 + (k : Int)).toNat = k + 1 by omega, List.getElem?_cons_succ, Nat.add_sub_cancel, List.getD_eq_getElem?_getD, List.getElem?_eq_getElem hk]
      rfl
    rw [e1]
    simp only [M.bnd_ok]
    rw [mulIM_l (by omega)]
    rfl]
  simp only [M.bnd_ok]
  rw [List.map_map]
  have e2 : v + ((List.range t.length).map ((fun a : Int => a * t.getD (a.toNat - 1) 0) ∘ fun (k : Nat) => 1 + (k : Int))).sum = modS (v :: t) := by
    unfold modS
    show _ = v + ((0 : Int) * v + plS 1 t)
    rw [Int.zero_mul, Int.zero_add, ← pl_range t 1]
    congr 2
    refine List.map_congr_left fun k _ => ?_
    show (1 + (k : Int)) * t.getD ((1 + (k : Int)).toNat - 1) 0 = ((1 + k : Nat) : Int) * t.getD k 0
    rw [show (1 + (k : Int)).toNat - 1 = k by omega, show (1 + (k : Int)) = ((1 + k : Nat) : Int) by omega]
  rw [e2]
  exact c6_ok c (by simp) (by omega)
theorem c1_ok {full : List Nat} (ns : List Int) (j : Nat) (hj : j < 16) (c : Int) (hf : FigOk full) (h1 : 1 ≤ full.length) (hl : full.length ≤ 100) : l_law_c1 ns (j : Int) c full = .ok (.nx ()) := by
  unfold l_law_c1
  have e1 : h_cell ns 9 = .ok (cellI ns 9) := cell_ok (by decide)
  simp only [M.bnd_ok, e1, mulIM_l (i := 7) (show -(2 ^ 64) < (7 : Int) ∧ (7 : Int) < 2 ^ 64 by decide)]
  generalize cellI ns 9 + 7 * (j : Int) = c2
  rw [figures_ok (show 0 ≤ 2 + (j : Int) by omega) (by omega)]
  simp only [M.bnd_ok]
  have hs := figI_ok c2 (2 + (j : Int)).toNat
  have hsl := figI_len c2 (2 + (j : Int)).toNat
  generalize figI c2 (2 + (j : Int)).toNat = o at hs hsl ⊢
  rw [loop_nx _ fun s hs' => ?_]
  · rw [M.bnd_ok, onS_nx]
    exact c5_ok j hj c
  have hq : FigOk s ∧ 1 ≤ s.length ∧ s.length ≤ 100 := by
    rcases List.mem_cons.mp hs' with rfl | q
    · exact ⟨hf, h1, hl⟩
    · rw [List.mem_singleton] at q
      subst q
      exact ⟨hs, by omega, by omega⟩
  obtain ⟨q1, q2, q3⟩ := hq
  rw [fits_ok q1, hsum_ok q1 (by omega)]
  simp only [M.bnd_ok, modM_ok (j := 10) (show (0 : Int) < 10 by decide)]
  generalize decide (wgt s % 10 = 0) = bb
  rw [show h_same (eB bb) (eB bb) = .ok true from same_refl rfl (ok_bl bb)]
  simp only [M.bnd_ok, Bool.not_true, Bool.false_eq_true, if_false]
  exact c2_ok c q1 q2 q3
theorem c7_ok : l_law_c7 = .ok true := by
  unfold l_law_c7
  have f1 : FigOk [52, 48, 48, 54, 51, 56, 49, 51, 51, 51, 57, 51] := figB_iff.mp (by decide)
  have e1 : p_check_of [52, 48, 48, 54, 51, 56, 49, 51, 51, 51, 57, 51] = .ok [48 + chkD [52, 48, 48, 54, 51, 56, 49, 51, 51, 51, 57, 51]] := check_ok f1 (by decide)
  have e2 : chkD [52, 48, 48, 54, 51, 56, 49, 51, 51, 51, 57, 51] = 1 := by decide
  have e3 : p_lacking [52, 48, 48, 54, 51, 56, 49, 63, 51, 51, 57, 51, 49] = .ok [51] := lacking_ok (a := [52, 48, 48, 54, 51, 56, 49]) (b := [51, 51, 57, 51, 49]) (c := 51) (figB_iff.mp (by decide)) (figB_iff.mp (by decide)) (by decide) (by decide) (by decide)
  rw [e2] at e1
  simp only [M.bnd_ok, e1, e3]
  rfl
theorem law_true : ∀ ns : List Int, ns.length ≤ 63 → l_law ns = .ok true := by
  intro ns _
  unfold l_law
  simp only [M.bnd_ok]
  rw [rngM_ok (by decide) (by decide), M.bnd_ok]
  refine bnd_eq (loop_nx _ fun a ha => ?_) c7_ok
  obtain ⟨k, hk, rfl⟩ := List.mem_map.mp ha
  have hk := List.mem_range.mp hk
  have hk : k < 16 := hk
  have e1 : h_cell ns ((k : Int) % 9) = .ok (cellI ns ((k : Int) % 9)) := cell_ok (by omega)
  simp only [M.bnd_ok, modM_ok (j := 9) (show (0 : Int) < 9 by decide), e1, mulIM_l (i := 31) (show -(2 ^ 64) < (31 : Int) ∧ (31 : Int) < 2 ^ 64 by decide)]
  generalize cellI ns ((k : Int) % 9) + 31 * (k : Int) = c
  have m0 := mixI_pos (c := c) (p := 9857) (show (0 : Int) < 20 by decide)
  have m1 := mixI_lt (c := c) (p := 9857) (show (0 : Int) < 20 by decide)
  simp only [mix_ok (c := c) (p := 9857) (m := 20) (by decide) (by decide) (by decide), M.bnd_ok]
  generalize mixI c 9857 20 = n at m0 m1 ⊢
  rw [figures_ok (show 0 ≤ 1 + n by omega) (by omega)]
  simp only [M.bnd_ok]
  have hs := figI_ok c (1 + n).toNat
  have hl := figI_len c (1 + n).toNat
  generalize figI c (1 + n).toNat = s at hs hl ⊢
  have hd := chkD_lt s
  rw [hcheck_ok hs (by omega), check_ok hs (by omega)]
  simp only [M.bnd_ok]
  rw [catM_ok (by rw [List.length_singleton]; omega)]
  simp only [M.bnd_ok]
  have hf := fig_snoc hs hd
  rw [fits_ok hf]
  have w := check_fits s
  simp only [w, decide_true, M.bnd_ok]
  rw [show h_same (eP eS eB ([48 + chkD s], true)) (eP eS eB ([48 + chkD s], true)) = .ok true from same_refl rfl (ok_sb _ _)]
  simp only [M.bnd_ok, Bool.not_true, Bool.false_eq_true, if_false]
  exact c1_ok ns k hk c hf (by rw [List.length_append, List.length_singleton]; omega) (by rw [List.length_append, List.length_singleton]; omega)
end Law

namespace Law
open PySem PySem.Spec PyProof.Rows L2 Dk
def d0 : He.DefD := ⟨("weighed", none), "weighed", "weighed", defArgs (top 2), defBody (top 2), defScope (top 2), [], []⟩
def d1 : He.DefD := ⟨("check_of", none), "check_of", "check_of", defArgs (top 3), defBody (top 3), defScope (top 3), [], []⟩
def d2 : He.DefD := ⟨("fits", none), "fits", "fits", defArgs (top 4), defBody (top 4), defScope (top 4), [], []⟩
def d3 : He.DefD := ⟨("lacking", none), "lacking", "lacking", defArgs (top 5), defBody (top 5), defScope (top 5), [], []⟩
def d4 : He.DefD := ⟨("exchanged", none), "exchanged", "exchanged", defArgs (top 6), defBody (top 6), defScope (top 6), [], []⟩
def d5 : He.DefD := ⟨("silent", none), "silent", "silent", defArgs (top 7), defBody (top 7), defScope (top 7), [], []⟩
def d6 : He.DefD := ⟨("mod_check", none), "mod_check", "mod_check", defArgs (top 8), defBody (top 8), defScope (top 8), [], []⟩
def d7 : He.DefD := ⟨("_law_cell", none), "_law_cell", "_law_cell", defArgs (top 10), defBody (top 10), defScope (top 10), [], []⟩
def d8 : He.DefD := ⟨("_law_mix", none), "_law_mix", "_law_mix", defArgs (top 11), defBody (top 11), defScope (top 11), [], []⟩
def d9 : He.DefD := ⟨("_law_same", none), "_law_same", "_law_same", defArgs (top 12), defBody (top 12), defScope (top 12), [], []⟩
def d10 : He.DefD := ⟨("_law_figures", none), "_law_figures", "_law_figures", defArgs (top 13), defBody (top 13), defScope (top 13), [], []⟩
def d11 : He.DefD := ⟨("_law_sum", none), "_law_sum", "_law_sum", defArgs (top 14), defBody (top 14), defScope (top 14), [], []⟩
def d12 : He.DefD := ⟨("_law_check", none), "_law_check", "_law_check", defArgs (top 15), defBody (top 15), defScope (top 15), [], []⟩
def d13 : He.DefD := ⟨("law", none), "law", "law", defArgs (top 16), defBody (top 16), defScope (top 16), [], []⟩
def dfs : List He.DefD := [d0, d1, d2, d3, d4, d5, d6, d7, d8, d9, d10, d11, d12, d13]
def cns : List (Str × D) := List.zip ["FIGURES"] cnv
theorem t0 : DefT (gtOf dfs cns ess) d0 f0 (["figures", "k", "figure"] : List Str) (["figures"] : List Str) := ⟨fun _ _ _ _ _ _ us hl => match us, hl with | [_], _ => rfl, ⟨rfl, rfl, rfl, by decide +kernel, rfl, by decide +kernel, by decide +kernel⟩, rfl, rfl, by kernel_rfl, rfl, rfl⟩
theorem t1 : DefT (gtOf dfs cns ess) d1 f1 (["figures"] : List Str) (["figures"] : List Str) := ⟨fun _ _ _ _ _ _ us hl => match us, hl with | [_], _ => rfl, ⟨rfl, rfl, rfl, by decide +kernel, rfl, by decide +kernel, by decide +kernel⟩, rfl, rfl, by kernel_rfl, rfl, rfl⟩
theorem t2 : DefT (gtOf dfs cns ess) d2 f2 (["figures"] : List Str) (["figures"] : List Str) := ⟨fun _ _ _ _ _ _ us hl => match us, hl with | [_], _ => rfl, ⟨rfl, rfl, rfl, by decide +kernel, rfl, by decide +kernel, by decide +kernel⟩, rfl, rfl, by kernel_rfl, rfl, rfl⟩
theorem t3 : DefT (gtOf dfs cns ess) d3 f3 (["text", "figure"] : List Str) (["text"] : List Str) := ⟨fun _ _ _ _ _ _ us hl => match us, hl with | [_], _ => rfl, ⟨rfl, rfl, rfl, by decide +kernel, rfl, by decide +kernel, by decide +kernel⟩, rfl, rfl, by kernel_rfl, rfl, rfl⟩
theorem t4 : DefT (gtOf dfs cns ess) d4 f4 (["figures", "k"] : List Str) (["figures", "k"] : List Str) := ⟨fun _ _ _ _ _ _ us hl => match us, hl with | [_, _], _ => rfl, ⟨rfl, rfl, rfl, by decide +kernel, rfl, by decide +kernel, by decide +kernel⟩, rfl, rfl, by kernel_rfl, rfl, rfl⟩
theorem t5 : DefT (gtOf dfs cns ess) d5 f5 (["figures", "found", "k"] : List Str) (["figures"] : List Str) := ⟨fun _ _ _ _ _ _ us hl => match us, hl with | [_], _ => rfl, ⟨rfl, rfl, rfl, by decide +kernel, rfl, by decide +kernel, by decide +kernel⟩, rfl, rfl, by kernel_rfl, rfl, rfl⟩
theorem t6 : DefT (gtOf dfs cns ess) d6 f6 (["values", "by", "k", "value"] : List Str) (["values", "by"] : List Str) := ⟨fun _ _ _ _ _ _ us hl => match us, hl with | [_, _], _ => rfl, ⟨rfl, rfl, rfl, by decide +kernel, rfl, by decide +kernel, by decide +kernel⟩, rfl, rfl, by kernel_rfl, rfl, rfl⟩
theorem t7 : DefT (gtOf dfs cns ess) d7 f7 (["_law_script", "_law_k"] : List Str) (["_law_script", "_law_k"] : List Str) := ⟨fun _ _ _ _ _ _ us hl => match us, hl with | [_, _], _ => rfl, ⟨rfl, rfl, rfl, by decide +kernel, rfl, by decide +kernel, by decide +kernel⟩, rfl, rfl, by kernel_rfl, rfl, rfl⟩
theorem t8 : DefT (gtOf dfs cns ess) d8 f8 (["_law_cell_here", "_law_prime", "_law_many", "_law_blend"] : List Str) (["_law_cell_here", "_law_prime", "_law_many"] : List Str) := ⟨fun _ _ _ _ _ _ us hl => match us, hl with | [_, _, _], _ => rfl, ⟨rfl, rfl, rfl, by decide +kernel, rfl, by decide +kernel, by decide +kernel⟩, rfl, rfl, by kernel_rfl, rfl, rfl⟩
theorem t9 : DefT (gtOf dfs cns ess) d9 f9 (["_law_gathered", "_law_due", "_law_one", "_law_other"] : List Str) (["_law_gathered", "_law_due"] : List Str) := ⟨fun _ _ _ _ _ _ us hl => match us, hl with | [_, _], _ => rfl, ⟨rfl, rfl, rfl, by decide +kernel, rfl, by decide +kernel, by decide +kernel⟩, rfl, rfl, by kernel_rfl, rfl, rfl⟩
theorem t10 : DefT (gtOf dfs cns ess) d10 f10 (["_law_cell_here", "_law_many", "_law_j"] : List Str) (["_law_cell_here", "_law_many"] : List Str) := ⟨fun _ _ _ _ _ _ us hl => match us, hl with | [_, _], _ => rfl, ⟨rfl, rfl, rfl, by decide +kernel, rfl, by decide +kernel, by decide +kernel⟩, rfl, rfl, by kernel_rfl, rfl, rfl⟩
theorem t11 : DefT (gtOf dfs cns ess) d11 f11 (["_law_figures_here", "_law_gathered", "_law_k", "_law_figure"] : List Str) (["_law_figures_here"] : List Str) := ⟨fun _ _ _ _ _ _ us hl => match us, hl with | [_], _ => rfl, ⟨rfl, rfl, rfl, by decide +kernel, rfl, by decide +kernel, by decide +kernel⟩, rfl, rfl, by kernel_rfl, rfl, rfl⟩
theorem t12 : DefT (gtOf dfs cns ess) d12 f12 (["_law_figures_here", "_law_one"] : List Str) (["_law_figures_here"] : List Str) := ⟨fun _ _ _ _ _ _ us hl => match us, hl with | [_], _ => rfl, ⟨rfl, rfl, rfl, by decide +kernel, rfl, by decide +kernel, by decide +kernel⟩, rfl, rfl, by kernel_rfl, rfl, rfl⟩
theorem t13 : DefT (gtOf dfs cns ess) d13 f13 (["_law_script", "_law_k", "_law_cell_here", "_law_figures_here", "_law_full", "_law_near", "_law_some", "_law_values", "_law_total_now", "_law_j", "_law_by", "_law_place", "_law_gone", "_law_due", "_law_quiet", "_law_other", "_law_one"] : List Str) (["_law_script"] : List Str) := ⟨fun _ _ _ _ _ _ us hl => match us, hl with | [_], _ => rfl, ⟨rfl, rfl, rfl, by decide +kernel, rfl, by decide +kernel, by decide +kernel⟩, rfl, rfl, by kernel_rfl, rfl, rfl⟩
theorem allT : AllT (gtOf dfs cns ess) dfs fns := .cons t0 (.cons t1 (.cons t2 (.cons t3 (.cons t4 (.cons t5 (.cons t6 (.cons t7 (.cons t8 (.cons t9 (.cons t10 (.cons t11 (.cons t12 (.cons t13 .nil)))))))))))))
abbrev R : PySem.W.OpenRow := PySem.W.OpenLaw.row PySem.Challenge.rw_bargaps_k03_checks
abbrev hk : PySem.W.Hook := hookC 5 (faOf dfs ess) dfs cns ess
def ob (s : PySem.W.SharedT) : hk.α := obC 5 (faOf dfs ess) dfs cns ess s
def loose : List Str := [("FIGURES" : Str), ("weighed" : Str), ("check_of" : Str), ("fits" : Str), ("lacking" : Str), ("exchanged" : Str), ("silent" : Str), ("mod_check" : Str), ("_law_cell" : Str), ("_law_mix" : Str), ("_law_same" : Str), ("_law_figures" : Str), ("_law_sum" : Str), ("_law_check" : Str)]
theorem run_eq (w : World) : HandSHeadRun.RunEq R (PySem.W.view R.prog [16]) hk ob 3000 loose w := by
  intro os
  kernel_rfl
def lev : Nat := 79
theorem math (hl : ∀ ns : List Int, ns.length ≤ 63 → l_law ns = .ok true) (ns : List Int) (h : ns.length ≤ 63) : Dk.run tab lev 13 [.frz ns] = .ok (.bl true) := by
  have q := sim_law lev (by decide) ns
  rw [hl ns h] at q
  exact q
end Law
open PySem PySem.W PySem.Calls PyProof.Rows
theorem PySem.Challenge.cw_bargaps_k03_checks_holds : PySem.Challenge.rw_bargaps_k03_checks.Holds := by
  w_on; o_law
  refine HandSHeadRun.head_any (r := OpenLaw.row PySem.Challenge.rw_bargaps_k03_checks) (q := view (OpenLaw.row PySem.Challenge.rw_bargaps_k03_checks).prog [16]) (H := Law.hk) (ob := Law.ob) (M := 3000) (loose := Law.loose) (d := HandSHeadRun.topDef (OpenLaw.row PySem.Challenge.rw_bargaps_k03_checks).prog 16) (kwd := []) Dk.obC_eq
    (by kernel_rfl) (fun s => by kernel_rfl) Law.run_eq (by kernel_rfl) (by kernel_rfl) (by kernel_rfl) (by rfl) (by first | assumption | decide +kernel) (by decide +kernel) ⟨rfl, rfl, rfl, rfl, rfl, by decide +kernel⟩ ?hw ?hc
  case hw => w_witness2
  case hc =>
    refine Dk.walk_ofW (l := PySem.Challenge.rw_bargaps_k03_checks) (n := 63) (k := Law.lev) (x := "_law_script") (CX := fun w => L2.CX PySem.Challenge.pw_bargaps_k03_checks w) rfl (by decide) (by kernel_rfl) ⟨rfl, by decide, by decide⟩ ?F (fun _ _ _ _ _ z => ?cx)
    case F =>
      intro w mg fa h Y G hmg0
      have hmg : mg ("law" : PySem.Str) = some (.ref fa) := by
        have e : (HandSHeadRun.topDef (OpenLaw.row PySem.Challenge.rw_bargaps_k03_checks).prog 16).name = ("law" : PySem.Str) := by kernel_rfl
        rw [← e]
        exact hmg0
      exact Dk.end_of (T := Law.tab) (d := Law.d13) (F := Law.f13) (k := 13) Law.allT (by decide +kernel) (by kernel_rfl) rfl rfl (by kernel_rfl) rfl rfl Law.t13 (Law.math Law.law_true) w mg fa h Y G hmg
    case cx =>
      obtain ⟨a, B, H', cls, d, h1, h2, h3, h4, h5, h6, h7, h8⟩ := z
      exact h8
